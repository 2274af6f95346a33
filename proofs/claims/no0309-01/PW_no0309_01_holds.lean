import PyProof.Rows.All
import Wide.All
import OpenK.AllK
import Wide.FinOn
import KE.KSuper
import PyProof.ZipIter
import PyProof.Rows.SetFrom
import PyProof.CollectWalk
import PySem.Challenge.RW_no0309_01
set_option linter.unusedVariables false
set_option linter.unusedSimpArgs false
set_option Elab.async false
set_option maxRecDepth 100000
set_option bootstrap.genMatcherCode false
set_option genSizeOf false
set_option genInjectivity false
set_option genCtorIdx false
set_option genCtorIdx false
set_option backward.match.sparseCases false
namespace Mine.Internal
universe u v
theorem nB {α : Prop} (h : false = true) : α := Bool.noConfusion h
theorem nM {α : Prop} {β : Type v} {x : β} (h : x ∈ ([] : List β)) : α := absurd h List.not_mem_nil
theorem hide {P : Prop} (h : ∀ G : Prop, (P → G) → G) : P := h P id
noncomputable def strList : List String := ["<=", ">=", "=", "!=", "values", "bounds", "lex_lt", "lex_le", "increasing"]
noncomputable def strT (i : Nat) : PySem.Str := PySem.Str.ofString (strList.getD i "")
inductive V where
  | none
  | bool (b : Bool)
  | int (i : Int)
  | str (i : Nat)
  | tup (vs : List V)
  | lst (vs : List V)
  | rng (a b st : Int)
inductive RV where
  | val (v : V)
  | ref (i : Nat)
inductive HObj where
  | mlst (xs : List V)
  | flst (xs : List V)
  | inst (c : Nat) (fs : List (Nat × RV))
  | idict (n : Nat)
noncomputable def V.ctorIdx (x : V) : Nat := @V.casesOn (fun _ => Nat) x 0 (fun _ => 1) (fun _ => 2) (fun _ => 3) (fun _ => 4) (fun _ => 5) (fun _ _ _ => 6)
noncomputable def RV.ctorIdx (x : RV) : Nat := @RV.casesOn (fun _ => Nat) x (fun _ => 0) (fun _ => 1)
noncomputable def HObj.ctorIdx (x : HObj) : Nat := @HObj.casesOn (fun _ => Nat) x (fun _ => 0) (fun _ => 1) (fun _ _ => 2) (fun _ => 3)
abbrev Loc := List (Nat × RV)
abbrev Hp := List HObj
set_option genCtorIdx true
inductive BOp where | add | sub | mul | mod | fdiv | pow
inductive COp where | lt | le | gt | ge | eq | ne | isN | inn | notin
inductive Blt where | abs | len | min | max | tuple | list | range | sorted
set_option genCtorIdx false
inductive CT where
  | name (x : Nat)
  | tup (ts : List CT)
inductive CE where
  | cnone
  | cbool (b : Bool)
  | cint (i : Nat)
  | cstr (i : Nat)
  | loc (x : Nat)
  | frz (e : CE)
  | tup (es : List CE)
  | lst (mt : Bool) (es : List CE)
  | edict
  | bin (op : BOp) (a b : CE)
  | neg (a : CE)
  | not (a : CE)
  | cmp (op : COp) (a b : CE)
  | boo (isAnd : Bool) (a b : CE)
  | ite (t a b : CE)
  | call (f : Nat) (args : List CE)
  | blt (b : Blt) (args : List CE)
  | tupzip (a b : CE)
  | sortset (e : CE)
  | meth (o : CE) (m : Nat) (args : List CE)
  | app (o : CE) (e : CE)
  | ext (o : CE) (e : CE)
  | popl (o : CE)
  | new (c : Nat) (args : List CE)
  | attr (o : CE) (f : Nat)
  | idx (o i : CE)
  | slc (o : CE) (lo hi : Option CE)
  | comp (mt : Bool) (fv : List Nat) (elt : CE) (gens : List (CT × CE × List CE))
inductive Tgt where
  | name (x : Nat)
  | tup (ts : List CT)
  | attr (o : CE) (f : Nat)
  | idx (o i : CE)
inductive CS where
  | ex (e : CE)
  | asg (t : Tgt) (e : CE)
  | asgT (ts : List Nat) (es : List CE)
  | iff (t : CE) (a b : List CS)
  | whil (t : CE) (body : List CS)
  | for_ (t : CT) (e : CE) (body : List CS)
  | forEnum (t : CT) (e : CE) (body : List CS)
  | ret (e : Option CE)
inductive Out where
  | next
  | ret (v : RV)
noncomputable def Out.ctorIdx (o : Out) : Nat := @Out.casesOn (fun _ => Nat) o 0 (fun _ => 1)
structure FnC where
  params : List Nat
  sup : Option (Nat × Nat × List CE) := none
  body : List CS
structure Prog where
  fn : List FnC
  meth : Nat → Nat → Option Nat
  init : Nat → Option Nat
noncomputable def lookupL : Nat → List (Nat × RV) → Option RV
  | _, [] => none
  | x, (y, v) :: r => if x = y then some v else lookupL x r
noncomputable def setL (x : Nat) (v : RV) : List (Nat × RV) → List (Nat × RV)
  | [] => [(x, v)]
  | (y, w) :: r => if x = y then (x, v) :: r else (y, w) :: setL x v r
noncomputable def asV (hp : Hp) : RV → Option V
  | .val v => some v
  | .ref i => match hp[i]? with
    | some (.mlst xs) => some (.lst xs)
    | some (.flst xs) => some (.lst xs)
    | _ => none
mutual
noncomputable def eqV : V → V → Bool
  | .none, .none => true
  | .bool a, .bool b => a == b
  | .bool a, .int j => (if a then 1 else 0) == j
  | .int i, .bool b => i == (if b then 1 else 0)
  | .int a, .int b => a == b
  | .str a, .str b => a == b
  | .tup a, .tup b => eqL a b
  | .lst a, .lst b => eqL a b
  | _, _ => false
noncomputable def eqL : List V → List V → Bool
  | [], [] => true
  | a :: as, b :: bs => eqV a b && eqL as bs
  | _, _ => false
end
mutual
noncomputable def depV : V → Nat
  | .tup vs => depL vs + 1
  | .lst vs => depL vs + 1
  | .rng _ _ _ => 100
  | _ => 0
noncomputable def depL : List V → Nat
  | [] => 0
  | x :: xs => max (depV x) (depL xs)
end
noncomputable def ltI : List Int → List Int → Bool
  | _, [] => false
  | [], _ :: _ => true
  | a :: as, b :: bs => if a = b then ltI as bs else decide (a < b)
noncomputable def intsOf : List V → Option (List Int)
  | [] => some []
  | .int i :: r => match intsOf r with
    | some is => some (i :: is)
    | none => none
  | _ => none
noncomputable def memV (x : V) (xs : List V) : Bool := xs.any fun y => eqV y x
noncomputable def rngN (a b st : Int) : Nat := if st = 1 then (b - a).toNat else if st = -1 then (a - b).toNat else 0
noncomputable def rngItems (a b st : Int) : List V := (List.range (rngN a b st)).map fun (k : Nat) => .int (a + st * k)
noncomputable def itemsOf : V → Option (List V)
  | .tup vs => some vs
  | .lst vs => some vs
  | .rng a b st => some (rngItems a b st)
  | _ => none
theorem nS {α : Prop} {β : Type v} {z : β} (h : (Option.none : Option β) = Option.some z) : α := nomatch h
@[elab_as_elim] theorem asV_e {hp : Hp} {rv : RV} {x : V} {M : RV → Prop} (h : asV hp rv = some x) (k1 : M (.val x)) (k2 : ∀ i xs, hp[i]? = some (.mlst xs) → x = .lst xs → M (.ref i)) (k3 : ∀ i xs, hp[i]? = some (.flst xs) → x = .lst xs → M (.ref i)) : M rv := by
  rcases rv with y | i
  · exact Eq.symm (Option.some.inj h) ▸ k1
  · replace h := (show asV hp (.ref i) = @Option.casesOn HObj (fun _ => Option V) hp[i]? none (fun o => @HObj.casesOn (fun _ => Option V) o (fun xs => some (.lst xs)) (fun xs => some (.lst xs)) (fun _ _ => none) (fun _ => none)) by kernel_rfl).symm.trans h
    rcases q : hp[i]? with _ | o
    · rw [q] at h; exact nS h
    · rw [q] at h
      rcases o with xs | xs | _ | _
      · exact k2 i xs q (Eq.symm (Option.some.inj h))
      · exact k3 i xs q (Eq.symm (Option.some.inj h))
      · exact nS h
      · exact nS h
@[elab_as_elim] theorem itemsOf_e {x : V} {items : List V} {M : V → Prop} (h : itemsOf x = some items) (k1 : M (.tup items)) (k2 : M (.lst items)) (k3 : ∀ a b st, items = rngItems a b st → M (.rng a b st)) : M x :=
  @V.casesOn (fun x => itemsOf x = some items → M x) x nS (fun _ => nS) (fun _ => nS) (fun _ => nS) (fun _ h => Eq.symm (Option.some.inj h) ▸ k1) (fun _ h => Eq.symm (Option.some.inj h) ▸ k2) (fun a b st h => k3 a b st (Eq.symm (Option.some.inj h))) h
noncomputable def oInt {α : Type u} (x : V) (f : Int → Option α) : Option α := @V.casesOn (fun x => Option α) x Option.none (fun a0 => Option.none) (fun a0 => f a0) (fun a0 => Option.none) (fun a0 => Option.none) (fun a0 => Option.none) (fun a0 a1 a2 => Option.none)
@[elab_as_elim] theorem oInt_e {α : Type u} {M : V → Prop} {x : V} {f : Int → Option α} {z : α} (h : oInt x f = some z) (k : ∀ a, f a = some z → M (.int a)) : M x := @V.casesOn (fun x => oInt x f = some z → M x) x (fun h => nS h) (fun a0 h => nS h) (fun a0 h => k a0 h) (fun a0 h => nS h) (fun a0 h => nS h) (fun a0 h => nS h) (fun a0 a1 a2 h => nS h) h
noncomputable def oTup {α : Type u} (x : V) (f : List V → Option α) : Option α := @V.casesOn (fun x => Option α) x Option.none (fun a0 => Option.none) (fun a0 => Option.none) (fun a0 => Option.none) (fun a0 => f a0) (fun a0 => Option.none) (fun a0 a1 a2 => Option.none)
@[elab_as_elim] theorem oTup_e {α : Type u} {M : V → Prop} {x : V} {f : List V → Option α} {z : α} (h : oTup x f = some z) (k : ∀ a, f a = some z → M (.tup a)) : M x := @V.casesOn (fun x => oTup x f = some z → M x) x (fun h => nS h) (fun a0 h => nS h) (fun a0 h => nS h) (fun a0 h => nS h) (fun a0 h => k a0 h) (fun a0 h => nS h) (fun a0 a1 a2 h => nS h) h
noncomputable def oLst {α : Type u} (x : V) (f : List V → Option α) : Option α := @V.casesOn (fun x => Option α) x Option.none (fun a0 => Option.none) (fun a0 => Option.none) (fun a0 => Option.none) (fun a0 => Option.none) (fun a0 => f a0) (fun a0 a1 a2 => Option.none)
@[elab_as_elim] theorem oLst_e {α : Type u} {M : V → Prop} {x : V} {f : List V → Option α} {z : α} (h : oLst x f = some z) (k : ∀ a, f a = some z → M (.lst a)) : M x := @V.casesOn (fun x => oLst x f = some z → M x) x (fun h => nS h) (fun a0 h => nS h) (fun a0 h => nS h) (fun a0 h => nS h) (fun a0 h => nS h) (fun a0 h => k a0 h) (fun a0 a1 a2 h => nS h) h
noncomputable def oSeq {α : Type u} (x : V) (f : List V → Option α) : Option α := @V.casesOn (fun x => Option α) x Option.none (fun a0 => Option.none) (fun a0 => Option.none) (fun a0 => Option.none) (fun a0 => f a0) (fun a0 => f a0) (fun a0 a1 a2 => Option.none)
@[elab_as_elim] theorem oSeq_e {α : Type u} {M : V → Prop} {x : V} {f : List V → Option α} {z : α} (h : oSeq x f = some z) (k1 : ∀ a, f a = some z → M (.tup a)) (k2 : ∀ a, f a = some z → M (.lst a)) : M x := @V.casesOn (fun x => oSeq x f = some z → M x) x (fun h => nS h) (fun a0 h => nS h) (fun a0 h => nS h) (fun a0 h => nS h) (fun a0 h => k1 a0 h) (fun a0 h => k2 a0 h) (fun a0 a1 a2 h => nS h) h
noncomputable def o1 {α : Type u} (xs : List V) (f : V → Option α) : Option α := match xs with | [a] => f a | _ => none
@[elab_as_elim] theorem o1_e {α : Type u} {M : List V → Prop} {xs} {f : V → Option α} {z : α} (h : o1 xs f = some z) (k : ∀ a, f a = some z → M [a]) : M xs := match xs, h with
  | [a], h => k a h
  | [], h => nS h
  | _ :: _ :: _, h => nS h
noncomputable def o2 {α : Type u} (xs : List V) (f : V → V → Option α) : Option α := match xs with | [a, b] => f a b | _ => none
@[elab_as_elim] theorem o2_e {α : Type u} {M : List V → Prop} {xs} {f : V → V → Option α} {z : α} (h : o2 xs f = some z) (k : ∀ a b, f a b = some z → M [a, b]) : M xs := match xs, h with
  | [a, b], h => k a b h
  | [], h => nS h
  | [_], h => nS h
  | _ :: _ :: _ :: _, h => nS h
noncomputable def o123 {α : Type u} (xs : List V) (f : V → Option α) (g : V → V → Option α) (q : V → V → V → Option α) : Option α := match xs with | [a] => f a | [a, b] => g a b | [a, b, c] => q a b c | _ => none
@[elab_as_elim] theorem o123_e {α : Type u} {M : List V → Prop} {xs} {f : V → Option α} {g : V → V → Option α} {q : V → V → V → Option α} {z : α} (h : o123 xs f g q = some z) (k1 : ∀ a, f a = some z → M [a]) (k2 : ∀ a b, g a b = some z → M [a, b]) (k3 : ∀ a b c, q a b c = some z → M [a, b, c]) : M xs := match xs, h with
  | [a], h => k1 a h
  | [a, b], h => k2 a b h
  | [a, b, c], h => k3 a b c h
  | [], h => nS h
  | _ :: _ :: _ :: _ :: _, h => nS h
theorem oIf_e {α : Type u} {M : Prop} {p : Prop} [Decidable p] {a : Option α} {z : α} (h : (if p then a else none) = some z) (k : p → a = some z → M) : M :=
  if q : p then k q (by rw [if_pos q] at h; exact h) else nS (by rw [if_neg q] at h; exact h)
@[elab_as_elim] theorem oS_e {α : Type u} {M : α → Prop} {a z : α} (h : some a = some z) (k : M a) : M z := Option.some.inj h ▸ k
theorem oB_e {α : Type u} {β : Type v} {M : Prop} {o : Option α} {f : α → Option β} {z : β} (h : o.bind f = some z) (k : ∀ x, o = some x → f x = some z → M) : M := match o, h with
  | some x, h => k x rfl h
  | none, h => nS h
noncomputable def vVal {R : Type u} (z : R) (v : RV) (f : V → R) : R := @RV.casesOn (fun _ => R) v f fun _ => z
noncomputable def vRef {R : Type u} (z : R) (v : RV) (f : Nat → R) : R := @RV.casesOn (fun _ => R) v (fun _ => z) f
noncomputable def vI {R : Type u} (z : R) (v : RV) (f : Int → R) : R := vVal z v fun x => @V.casesOn (fun _ => R) x z (fun _ => z) f (fun _ => z) (fun _ => z) (fun _ => z) fun _ _ _ => z
noncomputable def vB {R : Type u} (z : R) (v : RV) (f : Bool → R) : R := vVal z v fun x => @V.casesOn (fun _ => R) x z f (fun _ => z) (fun _ => z) (fun _ => z) (fun _ => z) fun _ _ _ => z
noncomputable def vNone {R : Type u} (z : R) (v : RV) (f : R) : R := vVal z v fun x => @V.casesOn (fun _ => R) x f (fun _ => z) (fun _ => z) (fun _ => z) (fun _ => z) (fun _ => z) fun _ _ _ => z
noncomputable def vEx {R : Type u} (z : R) (v : RV) (f : R) : R := vVal z v fun x => @V.casesOn (fun _ => R) x f (fun _ => f) (fun _ => f) (fun _ => z) (fun _ => z) (fun _ => z) fun _ _ _ => z
noncomputable def vTup {R : Type u} (z : R) (v : RV) (f : List V → R) : R := vVal z v fun x => @V.casesOn (fun _ => R) x z (fun _ => z) (fun _ => z) (fun _ => z) f (fun _ => z) fun _ _ _ => z
noncomputable def vLst {R : Type u} (z : R) (v : RV) (f : List V → R) : R := vVal z v fun x => @V.casesOn (fun _ => R) x z (fun _ => z) (fun _ => z) (fun _ => z) (fun _ => z) f fun _ _ _ => z
noncomputable def vSq {R : Type u} (z : R) (x : V) (f : List V → R) : R := @V.casesOn (fun _ => R) x z (fun _ => z) (fun _ => z) (fun _ => z) f f fun _ _ _ => z
noncomputable def vS {α : Type v} {R : Type u} (z : R) (o : Option α) (f : α → R) : R := @Option.casesOn α (fun _ => R) o z f
noncomputable def hOb {R : Type u} (z : R) (o : Option HObj) (ml : List V → R) (fl : List V → R) (ins : Nat → List (Nat × RV) → R) (di : Nat → R) : R := vS z o fun ob => @HObj.casesOn (fun _ => R) ob ml fl ins di
noncomputable def hML {R : Type u} (z : R) (o : Option HObj) (f : List V → R) : R := hOb z o f (fun _ => z) (fun _ _ => z) fun _ => z
noncomputable def hIn {R : Type u} (z : R) (o : Option HObj) (f : Nat → List (Nat × RV) → R) : R := hOb z o (fun _ => z) (fun _ => z) f fun _ => z
@[irreducible] noncomputable def obn {α β : Type} {γ : Type u} (o : Option (α × β)) (f : α → β → Option γ) : Option γ := vS none o fun q => f q.1 q.2
theorem obn_eq {α β : Type} {γ : Type u} (o : Option (α × β)) (f : α → β → Option γ) : obn o f = vS none o fun q => f q.1 q.2 := by unfold obn; rfl
theorem obn_e {α β : Type} {γ : Type u} {M : Prop} {o : Option (α × β)} {f : α → β → Option γ} {z : γ} (h : obn o f = some z) (k : ∀ a b, o = some (a, b) → f a b = some z → M) : M := match o, (obn_eq o f).symm.trans h with
  | some q, h => k q.1 q.2 rfl h
  | none, h => nS h
theorem vS_e {α : Type v} {γ : Type u} {M : Prop} {o : Option α} {f : α → Option γ} {z : γ} (h : vS none o f = some z) (k : ∀ a, o = some a → f a = some z → M) : M := match o, h with
  | some q, h => k q rfl h
  | none, h => nS h
theorem hML_e {γ : Type u} {M : Prop} {o : Option HObj} {f : List V → Option γ} {z : γ} (h : hML none o f = some z) (k : ∀ xs, o = some (.mlst xs) → f xs = some z → M) : M := match o, h with
  | some (.mlst xs), h => k xs rfl h
  | some (.flst _), h => nS h
  | some (.inst _ _), h => nS h
  | some (.idict _), h => nS h
  | none, h => nS h
theorem hIn_e {γ : Type u} {M : Prop} {o : Option HObj} {f : Nat → List (Nat × RV) → Option γ} {z : γ} (h : hIn none o f = some z) (k : ∀ c fs, o = some (.inst c fs) → f c fs = some z → M) : M := match o, h with
  | some (.inst c fs), h => k c fs rfl h
  | some (.flst _), h => nS h
  | some (.mlst _), h => nS h
  | some (.idict _), h => nS h
  | none, h => nS h
theorem hOb_e {γ : Type u} {M : Prop} {o : Option HObj} {f g : List V → Option γ} {d : Nat → Option γ} {z : γ} (h : hOb none o f g (fun _ _ => none) d = some z) (k1 : ∀ xs, o = some (.mlst xs) → f xs = some z → M) (k2 : ∀ xs, o = some (.flst xs) → g xs = some z → M) (k3 : ∀ n, o = some (.idict n) → d n = some z → M) : M := match o, h with
  | some (.mlst xs), h => k1 xs rfl h
  | some (.flst xs), h => k2 xs rfl h
  | some (.inst _ _), h => nS h
  | some (.idict n), h => k3 n rfl h
  | none, h => nS h
@[elab_as_elim] theorem oP_e {α β : Type} {M : α → β → Prop} {a c : α} {b d : β} (h : some (a, b) = some (c, d)) (k : M a b) : M c d := by obtain ⟨rfl, rfl⟩ := Prod.mk.inj (Option.some.inj h); exact k
@[elab_as_elim] theorem oT_e {α β γ : Type} {M : α → β → γ → Prop} {a a' : α} {b b' : β} {c c' : γ} (h : some (a, b, c) = some (a', b', c')) (k : M a b c) : M a' b' c' := by rcases h with ⟨⟩; exact k
noncomputable def binV : BOp → V → V → Option V
  | .add, x, y => @V.casesOn (fun x => Option V) x none (fun a0 => none) (fun a => oInt y fun b => some (.int (a + b))) (fun a0 => none) (fun a => oTup y fun b => if a.length + b.length ≤ 4096 then some (.tup (a ++ b)) else none) (fun a => oLst y fun b => if a.length + b.length ≤ 4096 then some (.lst (a ++ b)) else none) (fun a0 a1 a2 => none)
  | .sub, x, y => oInt x fun a => oInt y fun b => some (.int (a - b))
  | .mul, x, y => oLst x fun a => oInt y fun n => if n = 8 then o1 a fun x => some (.lst (List.replicate 8 x)) else none
  | .mod, x, y => oInt x fun a => oInt y fun b => if 0 < b then some (.int (Int.fmod a b)) else none
  | .fdiv, x, y => oInt x fun a => oInt y fun b => if 0 < b ∧ b.natAbs < 1073741824 then some (.int (Int.fdiv a b)) else none
  | .pow, x, y => oInt x fun a => oInt y fun b => if a = 2 ∧ 0 ≤ b ∧ b < 60 then some (.int (a ^ b.toNat)) else none
noncomputable def cmpV : COp → V → V → Option Bool
  | .lt, x, y => @V.casesOn (fun x => Option Bool) x none (fun a0 => none) (fun a => oInt y fun b => some (decide (a < b))) (fun a0 => none) (fun a => oTup y fun b => (intsOf a).bind fun p => (intsOf b).bind fun q => some (ltI p q)) (fun a0 => none) (fun a0 a1 a2 => none)
  | .le, x, y => oInt x fun a => oInt y fun b => some (decide (a ≤ b))
  | .gt, x, y => oInt x fun a => oInt y fun b => some (decide (a > b))
  | .ge, x, y => oInt x fun a => oInt y fun b => some (decide (a ≥ b))
  | .eq, a, b => if depV a ≤ 8 ∧ depV b ≤ 8 then some (eqV a b) else none
  | .ne, a, b => if depV a ≤ 8 ∧ depV b ≤ 8 then some (!eqV a b) else none
  | .isN, x, y => @V.casesOn (fun y => Option Bool) y (@V.casesOn (fun x => Option Bool) x (some true) (fun a0 => none) (fun a0 => none) (fun a0 => none) (fun a0 => some false) (fun a0 => some false) (fun a0 a1 a2 => none)) (fun a0 => none) (fun a0 => none) (fun a0 => none) (fun a0 => none) (fun a0 => none) (fun a0 a1 a2 => none)
  | .inn, x, y => oLst y fun xs => if depV x ≤ 8 ∧ depL xs ≤ 8 then some (memV x xs) else none
  | .notin, x, y => oLst y fun xs => if depV x ≤ 8 ∧ depL xs ≤ 8 then some (!memV x xs) else none
noncomputable def insI (x : Int) : List Int → List Int
  | [] => [x]
  | y :: r => if x ≤ y then x :: y :: r else y :: insI x r
noncomputable def sortI : List Int → List Int
  | [] => []
  | x :: r => insI x (sortI r)
noncomputable def setMs (is : List Int) : List Int := ((List.range 4).filter fun i => is.any (· == Int.ofNat i)).map Int.ofNat
noncomputable def atIdx (xs : List V) (i : Int) : Option V :=
  if 0 ≤ i then xs[i.toNat]? else if 0 ≤ i + xs.length then xs[(i + xs.length).toNat]? else none
noncomputable def posIdx (n : Nat) (i : Int) : Option Nat :=
  if 0 ≤ i then (if i.toNat < n then some i.toNat else none) else if 0 ≤ i + n then some (i + n).toNat else none
noncomputable def okR (a : Int) : Bool := decide (-2000 ≤ a) && decide (a ≤ 2000)
noncomputable def bltV : Blt → List V → Option V
  | .abs, xs => o1 xs fun v => oInt v fun a => some (.int (if a < 0 then -a else a))
  | .len, xs => o1 xs fun v => oSeq v fun vs => some (.int vs.length)
  | .min, xs => o2 xs fun v w => oInt v fun a => oInt w fun b => some (.int (if b < a then b else a))
  | .max, xs => o2 xs fun v w => oInt v fun a => oInt w fun b => some (.int (if b > a then b else a))
  | .tuple, xs => o1 xs fun v => (itemsOf v).bind fun vs => if vs.length ≤ 4096 then some (.tup vs) else none
  | .list, xs => o1 xs fun v => (itemsOf v).bind fun vs => if vs.length ≤ 4096 then some (.lst vs) else none
  | .range, xs => o123 xs (fun v => oInt v fun b => if okR b then some (.rng 0 b 1) else none) (fun v w => oInt v fun a => oInt w fun b => if okR a && okR b then some (.rng a b 1) else none)
    (fun v w u => oInt v fun a => oInt w fun b => oInt u fun st => if st = -1 && okR a && okR b then some (.rng a b st) else none)
  | .sorted, xs => o1 xs fun v => (itemsOf v).bind fun vs => (intsOf vs).bind fun is => if is.length < 64 then some (.lst ((sortI is).map .int)) else none
noncomputable def sliceL (xs : List V) (lo hi : Option Int) : Option (List V) :=
  match lo, hi with
  | some a, some b => if 0 ≤ a ∧ 0 ≤ b then some ((xs.take b.toNat).drop a.toNat) else none
  | some a, none => if 0 ≤ a then some (xs.drop a.toNat) else none
  | none, some b => if 0 ≤ b then some (xs.take b.toNat) else none
  | none, none => none
noncomputable def slcV (v : V) (lo hi : Option Int) : Option V := match v with
  | .tup vs => (sliceL vs lo hi).map .tup
  | .lst vs => (sliceL vs lo hi).map .lst
  | _ => none
mutual
noncomputable def bindT : CT → V → Loc → Option Loc
  | .name x, v, l => some (setL x (.val v) l)
  | .tup ts, .tup vs, l => bindTs ts vs l
  | _, _, _ => none
noncomputable def bindTs : List CT → List V → Loc → Option Loc
  | [], [], l => some l
  | t :: ts, v :: vs, l => match bindT t v l with
    | some l' => bindTs ts vs l'
    | none => none
  | _, _, _ => none
end
structure EV where
  E : Loc → Hp → CE → Option (RV × Hp)
  B : Loc → Hp → CE → Option (Bool × Hp)
  S : Loc → Hp → CS → Option (Out × Loc × Hp)
abbrev CallT := Nat → List RV → Hp → Option (RV × Hp)
noncomputable def evR (E : Loc → Hp → CE → Option (RV × Hp)) (loc : Loc) : List CE → Hp → Option (List RV × Hp)
  | [], hp => some ([], hp)
  | e :: es, hp => obn (E loc hp e) fun v hp1 => obn (evR E loc es hp1) fun vs hp2 => some (v :: vs, hp2)
noncomputable def valsOf : List RV → Option (List V)
  | [] => some []
  | v :: r => vVal none v fun x => vS none (valsOf r) fun vs => some (x :: vs)
noncomputable def asVs (hp : Hp) : List RV → Option (List V)
  | [] => some []
  | v :: r => vS none (asV hp v) fun x => vS none (asVs hp r) fun xs => some (x :: xs)
noncomputable def refsUnder (n : Nat) : RV → Bool
  | .val _ => true
  | .ref i => decide (i < n)
noncomputable def objUnder (n : Nat) : HObj → Bool
  | .inst _ fs => fs.all fun p => refsUnder n p.2
  | _ => true
noncomputable def dropTo (n : Nat) (r : RV × Hp) : RV × Hp :=
  if refsUnder n r.1 && (r.2.take n).all (objUnder n) then (r.1, r.2.take n) else r
noncomputable def forItems (f : V → Hp → Option (List V × Hp)) : List V → Hp → Option (List V × Hp)
  | [], hp => some ([], hp)
  | x :: r, hp => obn (f x hp) fun a hp1 => obn (forItems f r hp1) fun b hp2 => some (a ++ b, hp2)
noncomputable def ifsB (B : Loc → Hp → CE → Option (Bool × Hp)) (loc : Loc) : List CE → Hp → Option (Bool × Hp)
  | [], hp => some (true, hp)
  | c :: r, hp => obn (B loc hp c) fun x hp1 => cond x (ifsB B loc r hp1) (some (false, hp1))
noncomputable def compGo (r : EV) (elt : CE) : List (CT × CE × List CE) → Loc → Hp → Option (List V × Hp)
  | [], loc, hp => obn (r.E loc hp elt) fun v hp1 => vVal none v fun v => some ([v], hp1)
  | g :: gs, loc, hp => obn (r.E loc hp g.2.1) fun iv hp1 => vVal none iv fun iv => vS none (itemsOf iv) fun items =>
    forItems (fun x hp => vS none (bindT g.1 x loc) fun loc' => obn (ifsB r.B loc' g.2.2 hp) fun ok hp1 => cond ok (compGo r elt gs loc' hp1) (some ([], hp1))) items hp1
noncomputable def loc0 (fv : List Nat) (loc : Loc) : Loc := fv.filterMap fun x => (lookupL x loc).map fun v => (x, v)
noncomputable def compTop (r : EV) (elt : CE) (t : CT) (ifs : List CE) (gs : List (CT × CE × List CE)) (l0 : Loc) (items : List V) (hp : Hp) : Option (List V × Hp) :=
  forItems (fun x hp => vS none (bindT t x l0) fun loc' => obn (ifsB r.B loc' ifs hp) fun ok hp1 => cond ok (compGo r elt gs loc' hp1) (some ([], hp1))) items hp
noncomputable def mkList (mt : Bool) (vs : List V) (hp : Hp) : RV × Hp := if mt then (.ref hp.length, hp ++ [.mlst vs]) else (.val (.lst vs), hp)
noncomputable def optE (E : Loc → Hp → CE → Option (RV × Hp)) (loc : Loc) (hp : Hp) (o : Option CE) : Option (Option Int × Hp) :=
  @Option.casesOn CE (fun _ => Option (Option Int × Hp)) o (some (none, hp)) fun e => obn (E loc hp e) fun v hp1 => vI none v fun i => some (some i, hp1)
noncomputable def callV (C : CallT) (f : Nat) (vs : List RV) (hp : Hp) : Option (RV × Hp) :=
  vS (vS none (C f vs hp) fun q => some (dropTo hp.length q)) (valsOf vs) fun _ => obn (C f vs []) fun v _ => vVal none v fun w => some (.val w, hp)
noncomputable def sortsetV (xs : List V) : Option V := vS none (intsOf xs) fun is => if is.all (fun i => decide (0 ≤ i ∧ i < 4)) && decide (is.length ≤ 1000) then some (.lst ((setMs is).map .int)) else none
noncomputable def stepE (P : Prog) (C : CallT) (r : EV) (loc : Loc) (hp : Hp) : CE → Option (RV × Hp)
  | .cnone => some (.val .none, hp)
  | .cbool b => some (.val (.bool b), hp)
  | .cint i => some (.val (.int i), hp)
  | .cstr s => some (.val (.str s), hp)
  | .loc x => vS none (lookupL x loc) fun v => some (v, hp)
  | .frz e => obn (r.E loc hp e) fun v hp1 => @RV.casesOn (fun _ => Option (RV × Hp)) v (fun w => some (.val w, hp1)) fun i => hOb none hp1[i]? (fun xs => some (.val (.lst xs), hp1.set i (.flst xs))) (fun xs => some (.val (.lst xs), hp1)) (fun _ _ => none) fun _ => none
  | .tup es => obn (evR r.E loc es hp) fun vs hp1 => vS none (valsOf vs) fun ws => some (.val (.tup ws), hp1)
  | .lst mt es => obn (evR r.E loc es hp) fun vs hp1 => vS none (valsOf vs) fun ws => some (mkList mt ws hp1)
  | .edict => some (.ref hp.length, hp ++ [.idict 0])
  | .bin op a b => obn (r.E loc hp a) fun x hp1 => obn (r.E loc hp1 b) fun y hp2 => vS none (asV hp2 x) fun u => vS none (asV hp2 y) fun v => vS none (binV op u v) fun z => some (.val z, hp2)
  | .neg a => obn (r.E loc hp a) fun x hp1 => vI none x fun i => some (.val (.int (-i)), hp1)
  | .not a => obn (r.E loc hp a) fun x hp1 => vB none x fun b => some (.val (.bool (!b)), hp1)
  | .cmp op a b => obn (r.E loc hp a) fun x hp1 => obn (r.E loc hp1 b) fun y hp2 => vS none (asV hp2 x) fun u => vS none (asV hp2 y) fun v => vS none (cmpV op u v) fun z => some (.val (.bool z), hp2)
  | .boo ia a b => obn (r.E loc hp a) fun x hp1 => vB none x fun x => if x = ia then r.E loc hp1 b else some (.val (.bool x), hp1)
  | .ite t a b => obn (r.B loc hp t) fun x hp1 => cond x (r.E loc hp1 a) (r.E loc hp1 b)
  | .call f args => obn (evR r.E loc args hp) fun vs hp1 => callV C f vs hp1
  | .blt b args => obn (evR r.E loc args hp) fun vs hp1 => vS none (asVs hp1 vs) fun ws => vS none (bltV b ws) fun z => some (.val z, hp1)
  | .tupzip a b => obn (r.E loc hp a) fun x hp1 => obn (r.E loc hp1 b) fun y hp2 => vTup none x fun u => vTup none y fun v => some (.val (.tup ((u.zip v).map fun p => .tup [p.1, p.2])), hp2)
  | .sortset e => obn (r.E loc hp e) fun x hp1 => vLst none x fun xs => vS none (sortsetV xs) fun z => some (.val z, hp1)
  | .meth o m args => obn (r.E loc hp o) fun x hp1 => vRef none x fun i => hIn none hp1[i]? fun c fs => vS (vS none (P.meth c m) fun f => obn (evR r.E loc args hp1) fun vs hp2 => vS none (C f (.ref i :: vs) hp2) fun q => some (dropTo hp2.length q)) (lookupL m fs) fun _ => none
  | .app o e => obn (r.E loc hp o) fun x hp1 => vRef none x fun i => hML none hp1[i]? fun _ => obn (r.E loc hp1 e) fun y hp2 => vVal none y fun v => hML none hp2[i]? fun xs => if xs.length < 4096 then some (.val .none, hp2.set i (.mlst (xs ++ [v]))) else none
  | .ext o e => obn (r.E loc hp o) fun x hp1 => vRef none x fun i => hML none hp1[i]? fun _ => obn (r.E loc hp1 e) fun y hp2 => vLst none y fun vs => hML none hp2[i]? fun xs => if xs.length + vs.length ≤ 4096 then some (.val .none, hp2.set i (.mlst (xs ++ vs))) else none
  | .popl o => obn (r.E loc hp o) fun x hp1 => vRef none x fun i => hML none hp1[i]? fun xs => vS none xs.getLast? fun v => some (.val v, hp1.set i (.mlst xs.dropLast))
  | .new c args => obn (evR r.E loc args hp) fun vs hp1 => vS none (P.init c) fun f => obn (C f (.ref hp1.length :: vs) (hp1 ++ [.inst c []])) fun v hp2 => vNone none v (some (.ref hp1.length, hp2))
  | .attr o f => obn (r.E loc hp o) fun x hp1 => vRef none x fun i => hIn none hp1[i]? fun _ fs => vS none (lookupL f fs) fun v => some (v, hp1)
  | .idx o i => obn (r.E loc hp o) fun x hp1 => obn (r.E loc hp1 i) fun y hp2 => vI none y fun k => vS none (asV hp2 x) fun u => vSq none u fun vs => vS none (atIdx vs k) fun v => some (.val v, hp2)
  | .slc o lo hi => obn (r.E loc hp o) fun x hp1 => obn (optE r.E loc hp1 lo) fun a hp2 => obn (optE r.E loc hp2 hi) fun b hp3 => vS none (asV hp3 x) fun v => vS none (slcV v a b) fun w => some (.val w, hp3)
  | .comp mt fv elt gens => @List.casesOn (CT × CE × List CE) (fun _ => Option (RV × Hp)) gens none fun g gs => obn (r.E loc hp g.2.1) fun iv hp1 => vVal none iv fun iv => vS none (itemsOf iv) fun items => obn (compTop r elt g.1 g.2.2 gs (loc0 fv loc) items hp1) fun vs hp2 => if vs.length ≤ 4096 then some (mkList mt vs hp2) else none
noncomputable def stepB (r : EV) (loc : Loc) (hp : Hp) : CE → Option (Bool × Hp)
  | .not a => obn (r.B loc hp a) fun b hp1 => some (!b, hp1)
  | .boo ia a b => obn (r.B loc hp a) fun x hp1 => if x = ia then r.B loc hp1 b else some (x, hp1)
  | .ite t a b => obn (r.B loc hp t) fun x hp1 => cond x (r.B loc hp1 a) (r.B loc hp1 b)
  | e => obn (r.E loc hp e) fun v hp1 => vB none v fun b => some (b, hp1)
@[irreducible] noncomputable def obs (o : Option (Out × Loc × Hp)) (f : Loc → Hp → Option (Out × Loc × Hp)) : Option (Out × Loc × Hp) := vS none o fun q => @Out.casesOn (fun _ => Option (Out × Loc × Hp)) q.1 (f q.2.1 q.2.2) fun _ => o
theorem obs_eq (o : Option (Out × Loc × Hp)) (f : Loc → Hp → Option (Out × Loc × Hp)) : obs o f = vS none o fun q => @Out.casesOn (fun _ => Option (Out × Loc × Hp)) q.1 (f q.2.1 q.2.2) fun _ => o := by unfold obs; rfl
theorem obs_e {M : Prop} {o : Option (Out × Loc × Hp)} {f : Loc → Hp → Option (Out × Loc × Hp)} {z : Out × Loc × Hp} (h : obs o f = some z) (k1 : ∀ l h, o = some (.next, l, h) → f l h = some z → M) (k2 : ∀ v, z.1 = .ret v → o = some z → M) : M := match o, (obs_eq o f).symm.trans h with
  | some (.next, l, h1), h => k1 l h1 rfl h
  | some (.ret v, l, h1), h => k2 v (Option.some.inj h ▸ rfl) h
  | none, h => nS h
noncomputable def block (S : Loc → Hp → CS → Option (Out × Loc × Hp)) : List CS → Loc → Hp → Option (Out × Loc × Hp)
  | [], loc, hp => some (.next, loc, hp)
  | c :: r, loc, hp => obs (S loc hp c) (block S r)
noncomputable def whileGo (B : Loc → Hp → Option (Bool × Hp)) (S : Loc → Hp → Option (Out × Loc × Hp)) : Nat → Loc → Hp → Option (Out × Loc × Hp)
  | 0, _, _ => none
  | n + 1, loc, hp => obn (B loc hp) fun x hp1 => cond x (obs (S loc hp1) (whileGo B S n)) (some (.next, loc, hp1))
noncomputable def forGo (S : V → Loc → Hp → Option (Out × Loc × Hp)) : List V → Loc → Hp → Option (Out × Loc × Hp)
  | [], loc, hp => some (.next, loc, hp)
  | x :: r, loc, hp => obs (S x loc hp) (forGo S r)
noncomputable def forB (r : EV) (t : CT) (body : List CS) (x : V) (l : Loc) (h : Hp) : Option (Out × Loc × Hp) := vS none (bindT t x l) fun l' => block r.S body l' h
noncomputable def enumFrom : Nat → List V → List V
  | _, [] => []
  | n, v :: r => .tup [.int n, v] :: enumFrom (n + 1) r
noncomputable def whileFuel : Nat := 64
noncomputable def stepS (P : Prog) (C : CallT) (r : EV) (loc : Loc) (hp : Hp) : CS → Option (Out × Loc × Hp)
  | .ex e => obn (r.E loc hp e) fun v hp1 => vEx none v (some (.next, loc, hp1))
  | .asg t e => obn (r.E loc hp e) fun v hp1 => @Tgt.casesOn (fun _ => Option (Out × Loc × Hp)) t
    (fun x => some (.next, setL x v loc, hp1))
    (fun ts => vTup none v fun vs => vS none (bindTs ts vs loc) fun l => some (.next, l, hp1))
    (fun o f => obn (r.E loc hp1 o) fun x hp2 => vRef none x fun i => hIn none hp2[i]? fun c fs => if fs.length < 50 then some (.next, loc, hp2.set i (.inst c (setL f v fs))) else none)
    (fun o i => vVal none v fun w => obn (r.E loc hp1 o) fun x hp2 => vRef none x fun k => obn (r.E loc hp2 i) fun y hp3 => vI none y fun j => hOb none hp3[k]? (fun xs => vS none (posIdx xs.length j) fun p => some (.next, loc, hp3.set k (.mlst (xs.set p w)))) (fun _ => none) (fun _ _ => none) fun n => if n < 64 then some (.next, loc, hp3.set k (.idict (n + 1))) else none)
  | .asgT xs es => obn (evR r.E loc es hp) fun vs hp1 => if vs.length = xs.length then some (.next, (xs.zip vs).foldl (fun l p => setL p.1 p.2 l) loc, hp1) else none
  | .iff t a b => obn (r.B loc hp t) fun x hp1 => cond x (block r.S a loc hp1) (block r.S b loc hp1)
  | .whil t body => whileGo (fun l h => r.B l h t) (fun l h => block r.S body l h) whileFuel loc hp
  | .for_ t e body => obn (r.E loc hp e) fun v hp1 => vVal none v fun v => vS none (itemsOf v) fun items => forGo (forB r t body) items loc hp1
  | .forEnum t e body => obn (r.E loc hp e) fun v hp1 => vTup none v fun vs => forGo (forB r t body) (enumFrom 0 vs) loc hp1
  | .ret o => @Option.casesOn CE (fun _ => Option (Out × Loc × Hp)) o (some (.ret (.val .none), loc, hp)) fun e => obn (r.E loc hp e) fun v hp1 => some (.ret v, loc, hp1)
noncomputable def evD (P : Prog) (C : CallT) : Nat → EV
  | 0 => ⟨fun _ _ _ => none, fun _ _ _ => none, fun _ _ _ => none⟩
  | d + 1 => ⟨stepE P C (evD P C d), stepB (evD P C d), stepS P C (evD P C d)⟩
noncomputable def bodyDepth : Nat := 24
noncomputable def outRV : Out × Loc × Hp → RV × Hp
  | (.next, _, hp) => (.val .none, hp)
  | (.ret v, _, hp) => (v, hp)
noncomputable def zipL (ps : List Nat) (args : List RV) : Option Loc := if ps.length = args.length then some (ps.zip args) else none
noncomputable def bodyGo (P : Prog) (C : CallT) (fd : FnC) (loc : Loc) (args : List RV) (hp : Hp) : Option (RV × Hp) := match fd.sup with
  | none => vS none (block (evD P C bodyDepth).S fd.body loc hp) fun q => some (outRV q)
  | some q => @List.casesOn RV (fun _ => Option (RV × Hp)) args none fun a _ => vRef none a fun i => hIn none hp[i]? fun k _ => if k = q.1 then obn (evR (evD P C bodyDepth).E loc q.2.2 hp) fun vs hp1 => obn (C q.2.1 (.ref i :: vs) hp1) fun v hp2 => vNone none v (vS none (block (evD P C bodyDepth).S fd.body loc hp2) fun q => some (outRV q)) else none
noncomputable def callN (P : Prog) : Nat → CallT
  | 0 => fun _ _ _ => none
  | c + 1 => fun f args hp => vS none P.fn[f]? fun fd => vS none (zipL fd.params args) fun loc => bodyGo P (callN P c) fd loc args hp
end Mine.Internal
set_option backward.match.sparseCases true
namespace Mine.Internal
noncomputable def f_least : FnC where
  params := [0]
  sup := none
  body := [
    .ret (some (.idx (.idx (.loc 0) (.cint 0)) (.cint 0)))]
noncomputable def f_greatest : FnC where
  params := [0]
  sup := none
  body := [
    .ret (some (.idx (.idx (.loc 0) (.neg (.cint 1))) (.cint 1)))]
noncomputable def f_up_to : FnC where
  params := [0, 1]
  sup := none
  body := [
    .ret (some (.blt .tuple [(.comp false [1] (.tup [(.loc 2), (.blt .min [(.loc 3), (.loc 1)])]) [((.tup [(.name 2), (.name 3)]), (.loc 0), [(.cmp .le (.loc 2) (.loc 1))])])]))]
noncomputable def f_from_on : FnC where
  params := [0, 1]
  sup := none
  body := [
    .ret (some (.blt .tuple [(.comp false [1] (.tup [(.blt .max [(.loc 2), (.loc 1)]), (.loc 3)]) [((.tup [(.name 2), (.name 3)]), (.loc 0), [(.cmp .ge (.loc 3) (.loc 1))])])]))]
noncomputable def f_without : FnC where
  params := [0, 4]
  sup := none
  body := [
    .ret (some (.bin .add (.call 2 [(.loc 0), (.bin .sub (.loc 4) (.cint 1))]) (.call 3 [(.loc 0), (.bin .add (.loc 4) (.cint 1))])))]
noncomputable def f_meet : FnC where
  params := [0, 5]
  sup := none
  body := [
    .asgT [6, 7, 8] [(.lst true []), (.cint 0), (.cint 0)],
    .whil (.boo true (.cmp .lt (.loc 7) (.blt .len [(.loc 0)])) (.cmp .lt (.loc 8) (.blt .len [(.loc 5)]))) [(.asgT [2, 3] [(.blt .max [(.idx (.idx (.loc 0) (.loc 7)) (.cint 0)), (.idx (.idx (.loc 5) (.loc 8)) (.cint 0))]), (.blt .min [(.idx (.idx (.loc 0) (.loc 7)) (.cint 1)), (.idx (.idx (.loc 5) (.loc 8)) (.cint 1))])]), (.iff (.cmp .le (.loc 2) (.loc 3)) [(.ex (.app (.loc 6) (.tup [(.loc 2), (.loc 3)])))] []), (.iff (.cmp .lt (.idx (.idx (.loc 0) (.loc 7)) (.cint 1)) (.idx (.idx (.loc 5) (.loc 8)) (.cint 1))) [(.asg (.name 7) (.bin .add (.loc 7) (.cint 1)))] [(.asg (.name 8) (.bin .add (.loc 8) (.cint 1)))])],
    .ret (some (.blt .tuple [(.loc 6)]))]
noncomputable def f_negation : FnC where
  params := [9]
  sup := none
  body := [
    .asg (.tup [(.name 10), (.name 11), (.name 1)]) (.loc 9),
    .iff (.cmp .eq (.loc 11) (.cstr 0)) [(.ret (some (.tup [(.loc 10), (.cstr 1), (.bin .add (.loc 1) (.cint 1))])))] [],
    .iff (.cmp .eq (.loc 11) (.cstr 1)) [(.ret (some (.tup [(.loc 10), (.cstr 0), (.bin .sub (.loc 1) (.cint 1))])))] [],
    .ret (some (.ite (.cmp .eq (.loc 11) (.cstr 2)) (.tup [(.loc 10), (.cstr 3), (.loc 1)]) (.tup [(.loc 10), (.cstr 2), (.loc 1)])))]
noncomputable def f_struck : FnC where
  params := [9, 0]
  sup := none
  body := [
    .asgT [11, 1] [(.idx (.loc 9) (.cint 1)), (.idx (.loc 9) (.cint 2))],
    .iff (.cmp .eq (.loc 11) (.cstr 0)) [(.ret (some (.call 2 [(.loc 0), (.loc 1)])))] [],
    .iff (.cmp .eq (.loc 11) (.cstr 1)) [(.ret (some (.call 3 [(.loc 0), (.loc 1)])))] [],
    .ret (some (.ite (.cmp .eq (.loc 11) (.cstr 2)) (.call 5 [(.loc 0), (.tup [(.tup [(.loc 1), (.loc 1)])])]) (.call 4 [(.loc 0), (.loc 1)])))]
noncomputable def f_said_of : FnC where
  params := [9, 0]
  sup := none
  body := [
    .asg (.name 12) (.call 7 [(.loc 9), (.loc 0)]),
    .iff (.cmp .eq (.loc 12) (.loc 0)) [(.ret (some (.cint 1)))] [],
    .ret (some (.ite (.cmp .eq (.loc 12) (.tup [])) (.neg (.cint 1)) (.cint 0)))]
noncomputable def f_Store_init : FnC where
  params := [13]
  sup := none
  body := [
    .asg (.attr (.loc 13) 14) (.lst true []),
    .asg (.attr (.loc 13) 15) (.lst true []),
    .asg (.attr (.loc 13) 16) (.lst true []),
    .asg (.attr (.loc 13) 17) (.lst true []),
    .asg (.attr (.loc 13) 18) .edict,
    .asg (.attr (.loc 13) 19) (.neg (.cint 1)),
    .asg (.attr (.loc 13) 20) (.cbool false),
    .asg (.attr (.loc 13) 21) (.tup [])]
noncomputable def f_Store_new_var : FnC where
  params := [13, 22]
  sup := none
  body := [
    .ex (.app (.attr (.loc 13) 14) (.loc 22)),
    .ex (.app (.attr (.loc 13) 15) (.loc 22)),
    .iff (.cmp .eq (.loc 22) (.tup [])) [(.ex (.meth (.loc 13) 23 [(.tup [])]))] [],
    .ret (some (.bin .sub (.blt .len [(.attr (.loc 13) 14)]) (.cint 1)))]
noncomputable def f_Store_size : FnC where
  params := [13]
  sup := none
  body := [
    .ret (some (.blt .len [(.attr (.loc 13) 14)]))]
noncomputable def f_Store_dom : FnC where
  params := [13, 10]
  sup := none
  body := [
    .ret (some (.idx (.attr (.loc 13) 14) (.loc 10)))]
noncomputable def f_Store_low : FnC where
  params := [13, 10]
  sup := none
  body := [
    .ret (some (.call 0 [(.idx (.attr (.loc 13) 14) (.loc 10))]))]
noncomputable def f_Store_high : FnC where
  params := [13, 10]
  sup := none
  body := [
    .ret (some (.call 1 [(.idx (.attr (.loc 13) 14) (.loc 10))]))]
noncomputable def f_Store_holds : FnC where
  params := [13, 9]
  sup := none
  body := [
    .ret (some (.call 8 [(.loc 9), (.idx (.attr (.loc 13) 14) (.idx (.loc 9) (.cint 0)))]))]
noncomputable def f_Store_enter : FnC where
  params := [13, 9, 24, 19]
  sup := none
  body := [
    .asg (.name 10) (.idx (.loc 9) (.cint 0)),
    .asg (.name 25) (.idx (.attr (.loc 13) 14) (.loc 10)),
    .asg (.name 26) (.call 7 [(.loc 9), (.loc 25)]),
    .iff (.cmp .eq (.loc 26) (.tup [])) [(.ret (some (.meth (.loc 13) 23 [(.bin .add (.ite (.cmp .isN (.loc 24) .cnone) (.tup []) (.loc 24)) (.tup [(.call 6 [(.loc 9)])]))])))] [],
    .iff (.cmp .eq (.loc 26) (.loc 25)) [(.ret (some (.cbool true)))] [],
    .ex (.app (.attr (.loc 13) 16) (.tup [(.loc 10), (.loc 25), (.loc 9), (.loc 24), (.loc 19)])),
    .asg (.idx (.attr (.loc 13) 14) (.loc 10)) (.loc 26),
    .asg (.idx (.attr (.loc 13) 18) (.loc 10)) (.cbool true),
    .ret (some (.cbool true))]
noncomputable def f_Store_strike : FnC where
  params := [13, 9, 24]
  sup := none
  body := [
    .ret (some (.meth (.loc 13) 27 [(.loc 9), (.blt .tuple [(.loc 24)]), (.attr (.loc 13) 19)]))]
noncomputable def f_Store_decide : FnC where
  params := [13, 9]
  sup := none
  body := [
    .ret (some (.meth (.loc 13) 27 [(.loc 9), .cnone, (.neg (.cint 1))]))]
noncomputable def f_Store_fail : FnC where
  params := [13, 24]
  sup := none
  body := [
    .asg (.attr (.loc 13) 20) (.cbool true),
    .asg (.attr (.loc 13) 21) (.blt .tuple [(.loc 24)]),
    .ret (some (.cbool false))]
noncomputable def f_Store_push : FnC where
  params := [13]
  sup := none
  body := [
    .ex (.app (.attr (.loc 13) 17) (.blt .len [(.attr (.loc 13) 16)]))]
noncomputable def f_Store_pop : FnC where
  params := [13, 28]
  sup := none
  body := [
    .iff (.cmp .lt (.loc 28) (.cint 1)) [(.ret none)] [],
    .asg (.name 29) (.idx (.attr (.loc 13) 17) (.bin .sub (.blt .len [(.attr (.loc 13) 17)]) (.loc 28))),
    .asg (.attr (.loc 13) 17) (.slc (.attr (.loc 13) 17) none (some (.bin .sub (.blt .len [(.attr (.loc 13) 17)]) (.loc 28)))),
    .whil (.cmp .gt (.blt .len [(.attr (.loc 13) 16)]) (.loc 29)) [(.asg (.name 30) (.popl (.attr (.loc 13) 16))), (.asg (.idx (.attr (.loc 13) 14) (.idx (.loc 30) (.cint 0))) (.idx (.loc 30) (.cint 1)))],
    .asg (.attr (.loc 13) 18) .edict,
    .asg (.attr (.loc 13) 20) (.cmp .inn (.tup []) (.attr (.loc 13) 15)),
    .asg (.attr (.loc 13) 21) (.tup [])]
noncomputable def f_Propagator_init : FnC where
  params := [13, 31, 32]
  sup := none
  body := [
    .asg (.attr (.loc 13) 33) (.neg (.cint 1)),
    .asg (.attr (.loc 13) 31) (.blt .tuple [(.loc 31)]),
    .asg (.attr (.loc 13) 32) (.loc 32)]
noncomputable def f_LexOrder_init : FnC where
  params := [13, 34, 35, 36]
  sup := some (1, 22, [(.bin .add (.blt .tuple [(.loc 34)]) (.blt .tuple [(.loc 35)])), (.cstr 4)])
  body := [
    .asg (.attr (.loc 13) 37) (.tupzip (.loc 34) (.loc 35)),
    .asg (.attr (.loc 13) 38) (.blt .len [(.loc 34)]),
    .asg (.attr (.loc 13) 36) (.loc 36),
    .asg (.attr (.loc 13) 39) (.boo false (.cmp .lt (.blt .len [(.loc 34)]) (.blt .len [(.loc 35)])) (.boo true (.cmp .eq (.blt .len [(.loc 34)]) (.blt .len [(.loc 35)])) (.not (.loc 36))))]
noncomputable def f_LexOrder_propagate : FnC where
  params := [13, 40]
  sup := none
  body := [
    .asg (.name 41) (.neg (.cint 1)),
    .whil (.cmp .lt (.loc 41) (.blt .len [(.attr (.loc 40) 16)])) [(.asg (.name 41) (.blt .len [(.attr (.loc 40) 16)])), (.iff (.not (.meth (.loc 13) 42 [(.loc 40)])) [(.ret (some (.cbool false)))] [])],
    .ret (some (.cbool true))]
noncomputable def f_LexOrder_go_along : FnC where
  params := [13, 40]
  sup := none
  body := [
    .asg (.name 43) (.lst false []),
    .forEnum (.tup [(.name 1), (.tup [(.name 10), (.name 44)])]) (.attr (.loc 13) 37) [(.asg (.name 45) (.meth (.loc 13) 46 [(.loc 40), (.bin .add (.loc 1) (.cint 1))])), (.asg (.tup [(.name 47), (.name 48)]) (.ite (.cmp .isN (.loc 45) .cnone) (.tup [(.cint 0), (.lst false [])]) (.tup [(.cint 1), (.loc 45)]))), (.asgT [2, 3] [(.meth (.loc 40) 2 [(.loc 10)]), (.meth (.loc 40) 3 [(.loc 44)])]), (.iff (.not (.meth (.loc 40) 49 [(.tup [(.loc 10), (.cstr 0), (.bin .sub (.loc 3) (.loc 47))]), (.bin .add (.bin .add (.loc 43) (.lst false [(.tup [(.loc 44), (.cstr 0), (.loc 3)])])) (.loc 48))])) [(.ret (some (.cbool false)))] []), (.iff (.not (.meth (.loc 40) 49 [(.tup [(.loc 44), (.cstr 1), (.bin .add (.loc 2) (.loc 47))]), (.bin .add (.bin .add (.loc 43) (.lst false [(.tup [(.loc 10), (.cstr 1), (.loc 2)])])) (.loc 48))])) [(.ret (some (.cbool false)))] []), (.iff (.cmp .lt (.loc 2) (.loc 3)) [(.ret (some (.cbool true)))] []), (.asg (.name 43) (.bin .add (.loc 43) (.lst false [(.tup [(.loc 10), (.cstr 1), (.loc 2)]), (.tup [(.loc 44), (.cstr 0), (.loc 3)])])))],
    .ret (some (.boo false (.attr (.loc 13) 39) (.meth (.loc 40) 23 [(.loc 43)])))]
noncomputable def f_LexOrder_broken_from : FnC where
  params := [13, 40, 1]
  sup := none
  body := [
    .asg (.name 6) (.lst true []),
    .for_ (.tup [(.name 10), (.name 44)]) (.slc (.attr (.loc 13) 37) (some (.loc 1)) none) [(.asgT [2, 3] [(.meth (.loc 40) 2 [(.loc 10)]), (.meth (.loc 40) 3 [(.loc 44)])]), (.iff (.cmp .lt (.loc 2) (.loc 3)) [(.ret (some .cnone))] []), (.ex (.ext (.loc 6) (.lst false [(.tup [(.loc 10), (.cstr 1), (.loc 2)]), (.tup [(.loc 44), (.cstr 0), (.loc 3)])]))), (.iff (.cmp .gt (.loc 2) (.loc 3)) [(.ret (some (.frz (.loc 6))))] [])],
    .ret (some (.ite (.attr (.loc 13) 39) .cnone (.frz (.loc 6))))]
noncomputable def f_LexOrder_check : FnC where
  params := [13, 50]
  sup := none
  body := [
    .asgT [51, 52] [(.blt .tuple [(.slc (.loc 50) none (some (.attr (.loc 13) 38)))]), (.blt .tuple [(.slc (.loc 50) (some (.attr (.loc 13) 38)) none)])],
    .ret (some (.boo false (.cmp .lt (.loc 51) (.loc 52)) (.boo true (.cmp .eq (.loc 51) (.loc 52)) (.not (.attr (.loc 13) 36)))))]
noncomputable def f_LexOrder_told : FnC where
  params := [13]
  sup := none
  body := [
    .ret (some (.tup [(.ite (.attr (.loc 13) 36) (.cstr 6) (.cstr 7)), (.slc (.attr (.loc 13) 31) none (some (.attr (.loc 13) 38))), (.slc (.attr (.loc 13) 31) (some (.attr (.loc 13) 38)) none)]))]
noncomputable def f_Increasing_init : FnC where
  params := [13, 53]
  sup := some (2, 22, [(.loc 53), (.cstr 5)])
  body := [
    ]
noncomputable def f_Increasing_propagate : FnC where
  params := [13, 40]
  sup := none
  body := [
    .asg (.name 41) (.neg (.cint 1)),
    .whil (.cmp .lt (.loc 41) (.blt .len [(.attr (.loc 40) 16)])) [(.asg (.name 41) (.blt .len [(.attr (.loc 40) 16)])), (.for_ (.name 1) (.blt .range [(.cint 1), (.blt .len [(.attr (.loc 13) 31)])]) [(.asg (.name 2) (.meth (.loc 40) 2 [(.idx (.attr (.loc 13) 31) (.bin .sub (.loc 1) (.cint 1)))])), (.iff (.not (.meth (.loc 40) 49 [(.tup [(.idx (.attr (.loc 13) 31) (.loc 1)), (.cstr 1), (.loc 2)]), (.lst false [(.tup [(.idx (.attr (.loc 13) 31) (.bin .sub (.loc 1) (.cint 1))), (.cstr 1), (.loc 2)])])])) [(.ret (some (.cbool false)))] [])]), (.for_ (.name 1) (.blt .range [(.bin .sub (.blt .len [(.attr (.loc 13) 31)]) (.cint 1)), (.cint 0), (.neg (.cint 1))]) [(.asg (.name 3) (.meth (.loc 40) 3 [(.idx (.attr (.loc 13) 31) (.loc 1))])), (.iff (.not (.meth (.loc 40) 49 [(.tup [(.idx (.attr (.loc 13) 31) (.bin .sub (.loc 1) (.cint 1))), (.cstr 0), (.loc 3)]), (.lst false [(.tup [(.idx (.attr (.loc 13) 31) (.loc 1)), (.cstr 0), (.loc 3)])])])) [(.ret (some (.cbool false)))] [])])],
    .ret (some (.cbool true))]
noncomputable def f_Increasing_check : FnC where
  params := [13, 50]
  sup := none
  body := [
    .ret (some (.cmp .eq (.blt .list [(.loc 50)]) (.blt .sorted [(.loc 50)])))]
noncomputable def f_Increasing_told : FnC where
  params := [13]
  sup := none
  body := [
    .ret (some (.tup [(.cstr 8), (.attr (.loc 13) 31)]))]
noncomputable def f_law_keeps : FnC where
  params := [54, 55, 56]
  sup := none
  body := [
    .iff (.cmp .eq (.loc 54) (.cint 2)) [(.ret (some (.cmp .eq (.comp false [56] (.loc 1) [((.name 1), (.blt .range [(.cint 1), (.blt .len [(.loc 56)])]), [(.cmp .gt (.idx (.loc 56) (.bin .sub (.loc 1) (.cint 1))) (.idx (.loc 56) (.loc 1)))])]) (.lst false []))))] [],
    .asgT [57, 58] [(.slc (.loc 56) none (some (.loc 55))), (.slc (.loc 56) (some (.loc 55)) none)],
    .for_ (.name 1) (.blt .range [(.blt .min [(.blt .len [(.loc 57)]), (.blt .len [(.loc 58)])])]) [(.iff (.cmp .ne (.idx (.loc 57) (.loc 1)) (.idx (.loc 58) (.loc 1))) [(.ret (some (.cmp .lt (.idx (.loc 57) (.loc 1)) (.idx (.loc 58) (.loc 1)))))] [])],
    .ret (some (.boo false (.cmp .lt (.blt .len [(.loc 57)]) (.blt .len [(.loc 58)])) (.boo true (.cmp .eq (.blt .len [(.loc 57)]) (.blt .len [(.loc 58)])) (.cmp .eq (.loc 54) (.cint 0)))))]
noncomputable def f_law_says : FnC where
  params := [9, 4]
  sup := none
  body := [
    .asgT [11, 1] [(.idx (.loc 9) (.cint 1)), (.idx (.loc 9) (.cint 2))],
    .iff (.cmp .eq (.loc 11) (.cstr 0)) [(.ret (some (.cmp .le (.loc 4) (.loc 1))))] [],
    .iff (.cmp .eq (.loc 11) (.cstr 1)) [(.ret (some (.cmp .ge (.loc 4) (.loc 1))))] [],
    .ret (some (.ite (.cmp .eq (.loc 11) (.cstr 2)) (.cmp .eq (.loc 4) (.loc 1)) (.cmp .ne (.loc 4) (.loc 1))))]
noncomputable def f_law_has_all : FnC where
  params := [59, 56]
  sup := none
  body := [
    .ret (some (.cmp .eq (.comp false [56] (.loc 60) [((.name 60), (.loc 59), [(.not (.call 34 [(.loc 60), (.idx (.loc 56) (.idx (.loc 60) (.cint 0)))]))])]) (.lst false [])))]
noncomputable def f_law_points : FnC where
  params := [61]
  sup := none
  body := [
    .asg (.name 6) (.lst false [(.tup [])]),
    .for_ (.name 62) (.loc 61) [(.asg (.name 6) (.comp false [62] (.bin .add (.loc 60) (.tup [(.loc 4)])) [((.name 60), (.loc 6), []), ((.name 4), (.loc 62), [])]))],
    .ret (some (.loc 6))]
noncomputable def f_law_values : FnC where
  params := [22]
  sup := none
  body := [
    .ret (some (.comp false [] (.loc 4) [((.tup [(.name 2), (.name 3)]), (.loc 22), []), ((.name 4), (.blt .range [(.loc 2), (.bin .add (.loc 3) (.cint 1))]), [])]))]
noncomputable def f_law_domain : FnC where
  params := [62]
  sup := none
  body := [
    .asg (.name 6) (.lst true []),
    .for_ (.name 4) (.loc 62) [(.iff (.boo true (.cmp .ne (.loc 6) (.lst false [])) (.cmp .eq (.idx (.idx (.loc 6) (.neg (.cint 1))) (.cint 1)) (.bin .sub (.loc 4) (.cint 1)))) [(.asg (.idx (.loc 6) (.neg (.cint 1))) (.tup [(.idx (.idx (.loc 6) (.neg (.cint 1))) (.cint 0)), (.loc 4)]))] [(.ex (.app (.loc 6) (.tup [(.loc 4), (.loc 4)])))])],
    .ret (some (.blt .tuple [(.loc 6)]))]
noncomputable def f_law_lots : FnC where
  params := [63]
  sup := none
  body := [
    .ret (some (.comp false [63] (.call 37 [(.meth (.loc 63) 65 [(.loc 10)])]) [((.name 10), (.blt .range [(.meth (.loc 63) 64 [])]), [])]))]
noncomputable def f_law_are_reasons_right : FnC where
  params := [66, 61, 67]
  sup := none
  body := [
    .for_ (.tup [(.name 10), (.name 25), (.name 9), (.name 24), (.name 19)]) (.loc 66) [(.iff (.boo false (.cmp .ne (.idx (.loc 61) (.loc 10)) (.call 37 [(.loc 25)])) (.cmp .ne (.idx (.loc 9) (.cint 0)) (.loc 10))) [(.ret (some (.cbool false)))] []), (.for_ (.name 60) (.loc 24) [(.iff (.cmp .ne (.comp false [60] (.loc 4) [((.name 4), (.idx (.loc 61) (.idx (.loc 60) (.cint 0))), [(.not (.call 34 [(.loc 60), (.loc 4)]))])]) (.lst false [])) [(.ret (some (.cbool false)))] [])]), (.iff (.cmp .ne (.comp false [24, 9, 10] (.loc 56) [((.name 56), (.loc 67), [(.boo true (.call 35 [(.loc 24), (.loc 56)]) (.not (.call 34 [(.loc 9), (.idx (.loc 56) (.loc 10))])))])]) (.lst false [])) [(.ret (some (.cbool false)))] []), (.asg (.idx (.loc 61) (.loc 10)) (.comp false [9] (.loc 4) [((.name 4), (.idx (.loc 61) (.loc 10)), [(.call 34 [(.loc 9), (.loc 4)])])]))],
    .ret (some (.cbool true))]
noncomputable def f_law_is_tight : FnC where
  params := [54, 55, 61, 41]
  sup := none
  body := [
    .for_ (.name 10) (.blt .range [(.blt .len [(.loc 61)])]) [(.asg (.name 68) (.sortset (.comp false [10] (.idx (.loc 56) (.loc 10)) [((.name 56), (.loc 41), [])]))), (.iff (.boo false (.boo true (.cmp .lt (.loc 54) (.cint 2)) (.cmp .ne (.idx (.loc 61) (.loc 10)) (.loc 68))) (.cmp .ne (.comp false [61, 10] (.loc 4) [((.name 4), (.loc 68), [(.cmp .notin (.loc 4) (.idx (.loc 61) (.loc 10)))])]) (.lst false []))) [(.ret (some (.cbool false)))] [])],
    .iff (.cmp .lt (.loc 54) (.cint 2)) [(.ret (some (.cmp .ne (.loc 41) (.lst false []))))] [],
    .asg (.name 69) (.comp false [54, 55] (.loc 56) [((.name 56), (.call 36 [(.comp false [] (.blt .range [(.idx (.loc 62) (.cint 0)), (.bin .add (.idx (.loc 62) (.neg (.cint 1))) (.cint 1))]) [((.name 62), (.loc 61), [])])]), [(.call 33 [(.loc 54), (.loc 55), (.loc 56)])])]),
    .for_ (.name 10) (.blt .range [(.blt .len [(.loc 61)])]) [(.asg (.name 70) (.comp false [10] (.idx (.loc 56) (.loc 10)) [((.name 56), (.loc 69), [])])), (.iff (.boo false (.cmp .notin (.idx (.idx (.loc 61) (.loc 10)) (.cint 0)) (.loc 70)) (.cmp .notin (.idx (.idx (.loc 61) (.loc 10)) (.neg (.cint 1))) (.loc 70))) [(.ret (some (.cbool false)))] [])],
    .ret (some (.cbool true))]
noncomputable def f_law_is_told : FnC where
  params := [71, 54, 55, 38]
  sup := none
  body := [
    .asgT [34, 35] [(.blt .tuple [(.blt .range [(.loc 55)])]), (.blt .tuple [(.blt .range [(.loc 55), (.loc 38)])])],
    .iff (.cmp .eq (.loc 54) (.cint 2)) [(.ret (some (.boo true (.cmp .eq (.meth (.loc 71) 72 []) (.tup [(.cstr 8), (.bin .add (.loc 34) (.loc 35))])) (.cmp .eq (.attr (.loc 71) 31) (.bin .add (.loc 34) (.loc 35))))))] [],
    .ret (some (.boo true (.cmp .eq (.meth (.loc 71) 72 []) (.tup [(.ite (.cmp .eq (.loc 54) (.cint 1)) (.cstr 6) (.cstr 7)), (.loc 34), (.loc 35)])) (.cmp .eq (.attr (.loc 71) 31) (.bin .add (.loc 34) (.loc 35)))))]
noncomputable def f_law : FnC where
  params := [73]
  sup := none
  body := [
    .asg (.name 74) (.bin .add (.comp false [] (.blt .abs [(.loc 28)]) [((.name 28), (.slc (.loc 73) none (some (.cint 8))), [])]) (.bin .mul (.lst false [(.cint 0)]) (.cint 8))),
    .asgT [54, 55] [(.bin .mod (.idx (.loc 74) (.cint 0)) (.cint 3)), (.bin .add (.cint 1) (.bin .mod (.bin .fdiv (.idx (.loc 74) (.cint 0)) (.cint 3)) (.cint 2)))],
    .asg (.name 38) (.bin .add (.bin .add (.loc 55) (.cint 1)) (.bin .mod (.bin .fdiv (.idx (.loc 74) (.cint 0)) (.cint 6)) (.cint 2))),
    .asgT [63, 51, 69] [(.new 0 []), (.lst true []), (.ite (.cmp .lt (.loc 38) (.cint 4)) (.cint 4) (.cint 3))],
    .for_ (.name 1) (.blt .range [(.loc 38)]) [(.asg (.name 62) (.comp false [74, 1, 69] (.loc 4) [((.name 4), (.blt .range [(.loc 69)]), [(.cmp .eq (.bin .mod (.bin .fdiv (.bin .add (.cint 1) (.bin .mod (.idx (.loc 74) (.bin .add (.cint 1) (.loc 1))) (.bin .sub (.bin .pow (.cint 2) (.loc 69)) (.cint 1)))) (.bin .pow (.cint 2) (.loc 4))) (.cint 2)) (.cint 1))])])), (.ex (.app (.loc 51) (.loc 62))), (.ex (.meth (.loc 63) 75 [(.call 38 [(.loc 62)])]))],
    .asgT [34, 35] [(.blt .list [(.blt .range [(.loc 55)])]), (.blt .list [(.blt .range [(.loc 55), (.loc 38)])])],
    .asg (.name 71) (.ite (.cmp .eq (.loc 54) (.cint 2)) (.new 2 [(.blt .tuple [(.bin .add (.loc 34) (.loc 35))])]) (.new 1 [(.blt .tuple [(.loc 34)]), (.blt .tuple [(.loc 35)]), (.cmp .eq (.loc 54) (.cint 1))])),
    .asg (.name 67) (.comp false [54, 55] (.loc 56) [((.name 56), (.call 36 [(.frz (.loc 51))]), [(.call 33 [(.loc 54), (.loc 55), (.loc 56)])])]),
    .iff (.cmp .ne (.comp false [54, 55, 71] (.loc 56) [((.name 56), (.call 36 [(.frz (.loc 51))]), [(.cmp .ne (.meth (.loc 71) 76 [(.loc 56)]) (.call 33 [(.loc 54), (.loc 55), (.loc 56)]))])]) (.lst false [])) [(.ret (some (.cbool false)))] [],
    .iff (.not (.call 42 [(.loc 71), (.loc 54), (.loc 55), (.loc 38)])) [(.ret (some (.cbool false)))] [],
    .ex (.meth (.loc 63) 77 []),
    .for_ (.name 78) (.slc (.loc 74) (some (.cint 5)) (some (.cint 7))) [(.asg (.name 9) (.tup [(.bin .mod (.loc 78) (.loc 38)), (.idx (.lst false [(.cstr 3), (.cstr 0), (.cstr 1), (.cstr 2)]) (.bin .mod (.bin .fdiv (.loc 78) (.cint 4)) (.cint 4))), (.bin .mod (.bin .fdiv (.loc 78) (.cint 16)) (.cint 4))])), (.iff (.boo true (.cmp .ne (.loc 78) (.cint 0)) (.cmp .eq (.meth (.loc 63) 79 [(.loc 9)]) (.cint 0))) [(.ex (.meth (.loc 63) 80 [(.loc 9)]))] [])],
    .asgT [61, 81] [(.call 39 [(.loc 63)]), (.blt .len [(.attr (.loc 63) 16)])],
    .asg (.name 41) (.comp false [38, 61] (.loc 56) [((.name 56), (.loc 67), [(.cmp .eq (.comp false [56, 61] (.loc 10) [((.name 10), (.blt .range [(.loc 38)]), [(.cmp .notin (.idx (.loc 56) (.loc 10)) (.idx (.loc 61) (.loc 10)))])]) (.lst false []))])]),
    .asg (.name 82) (.meth (.loc 71) 83 [(.loc 63)]),
    .iff (.boo false (.cmp .ne (.loc 82) (.cmp .ne (.loc 41) (.lst false []))) (.cmp .ne (.attr (.loc 63) 20) (.cmp .eq (.loc 41) (.lst false [])))) [(.ret (some (.cbool false)))] [],
    .iff (.not (.call 40 [(.slc (.attr (.loc 63) 16) (some (.loc 81)) none), (.comp true [] (.blt .list [(.loc 62)]) [((.name 62), (.loc 61), [])]), (.loc 67)])) [(.ret (some (.cbool false)))] [],
    .asg (.name 84) (.call 39 [(.loc 63)]),
    .iff (.loc 82) [(.asg (.name 81) (.blt .len [(.attr (.loc 63) 16)])), (.iff (.not (.call 41 [(.loc 54), (.loc 55), (.loc 84), (.loc 41)])) [(.ret (some (.cbool false)))] []), (.iff (.boo false (.not (.meth (.loc 71) 83 [(.loc 63)])) (.cmp .ne (.blt .len [(.attr (.loc 63) 16)]) (.loc 81))) [(.ret (some (.cbool false)))] [])] [(.iff (.cmp .ne (.comp false [63] (.loc 60) [((.name 60), (.attr (.loc 63) 21), [(.cmp .ne (.meth (.loc 63) 79 [(.loc 60)]) (.cint 1))])]) (.lst false [])) [(.ret (some (.cbool false)))] []), (.iff (.cmp .ne (.comp false [63] (.loc 56) [((.name 56), (.loc 67), [(.call 35 [(.attr (.loc 63) 21), (.loc 56)])])]) (.lst false [])) [(.ret (some (.cbool false)))] [])],
    .ex (.meth (.loc 63) 85 [(.cint 1)]),
    .ret (some (.boo true (.cmp .eq (.call 39 [(.loc 63)]) (.loc 51)) (.not (.attr (.loc 63) 20))))]
noncomputable def mtab : List (List (Nat × Nat)) := [[(75, 10), (64, 11), (65, 12), (2, 13), (3, 14), (79, 15), (27, 16), (49, 17), (80, 18), (23, 19), (77, 20), (85, 21)], [(83, 24), (42, 25), (46, 26), (76, 27), (72, 28)], [(83, 30), (76, 31), (72, 32)]]
noncomputable def methT (k m : Nat) : Option Nat := (mtab.getD k []).lookup m
noncomputable def initT : Nat → Option Nat
  | 0 => some 9
  | 1 => some 23
  | 2 => some 29
  | _ => none
noncomputable def prog : Prog where
  fn := [f_least, f_greatest, f_up_to, f_from_on, f_without, f_meet, f_negation, f_struck, f_said_of, f_Store_init, f_Store_new_var, f_Store_size, f_Store_dom, f_Store_low, f_Store_high, f_Store_holds, f_Store_enter, f_Store_strike, f_Store_decide, f_Store_fail, f_Store_push, f_Store_pop, f_Propagator_init, f_LexOrder_init, f_LexOrder_propagate, f_LexOrder_go_along, f_LexOrder_broken_from, f_LexOrder_check, f_LexOrder_told, f_Increasing_init, f_Increasing_propagate, f_Increasing_check, f_Increasing_told, f_law_keeps, f_law_says, f_law_has_all, f_law_points, f_law_values, f_law_domain, f_law_lots, f_law_are_reasons_right, f_law_is_tight, f_law_is_told, f_law]
  meth := methT
  init := initT
noncomputable def fnNames : List String := ["least", "greatest", "up_to", "from_on", "without", "meet", "negation", "struck", "said_of", "Store.__init__", "Store.new_var", "Store.size", "Store.dom", "Store.low", "Store.high", "Store.holds", "Store.enter", "Store.strike", "Store.decide", "Store.fail", "Store.push", "Store.pop", "Propagator.__init__", "LexOrder.__init__", "LexOrder.propagate", "LexOrder.go_along", "LexOrder.broken_from", "LexOrder.check", "LexOrder.told", "Increasing.__init__", "Increasing.propagate", "Increasing.check", "Increasing.told", "_law_keeps", "_law_says", "_law_has_all", "_law_points", "_law_values", "_law_domain", "_law_lots", "_law_are_reasons_right", "_law_is_tight", "_law_is_told", "law"]
noncomputable def nmT : List String := ["d", "k", "low", "high", "v", "e", "found", "i", "j", "literal", "x", "sign", "kept", "self", "domains", "firsts", "trail", "marks", "news", "speaker", "is_failed", "clash", "domain", "fail", "reasons", "old", "fresh", "enter", "n", "mark", "entry", "scope", "strength", "number", "xs", "ys", "is_strict", "pairs", "many", "stands_alike", "store", "before", "go_along", "ahead", "y", "behind", "broken_from", "gap", "more", "strike", "values", "first", "second", "row", "kind", "split", "point", "left", "right", "literals", "one", "lots", "lot", "store_now", "size", "dom", "entries", "good", "ends", "wide", "some", "rule", "told", "script", "cells", "new_var", "check", "push", "cell", "holds", "decide", "spot", "stands", "propagate", "late", "pop"]
end Mine.Internal
namespace Mine.Internal
open PySem PySem.W PyProof.Rows
structure Nm where
  nm : Nat → Str
  N : Nat
  fN : Nat → Str
  cN : Nat → Str
abbrev Sc := List (Str × NameKind)
noncomputable def opOf : BOp → Operator
  | .add => .Add | .sub => .Sub | .mul => .Mult | .mod => .Mod | .fdiv => .FloorDiv | .pow => .Pow
noncomputable def copOf : COp → CmpOp
  | .lt => .Lt | .le => .LtE | .gt => .Gt | .ge => .GtE | .eq => .Eq | .ne => .NotEq | .isN => .Is | .inn => .In | .notin => .NotIn
theorem ff {α : Prop} (h : false = true) : α := nB h
noncomputable def onI (i n : Nat) (f : i = n → Bool) : Bool := dite (i = n) f fun _ => false
theorem onI_e {i n : Nat} {f : i = n → Bool} (h : onI i n f = true) : i = n := Decidable.byContradiction fun q => nB ((dif_neg q).symm.trans h)
noncomputable def onCon (x : Expr) (p : Const → Bool) : Bool := onI x.ctorIdx 19 fun i => Expr.Constant.elim (motive_1 := fun _ => Bool) x i fun v _ _ => p v
@[elab_as_elim] theorem onCon_e {M : Expr → Prop} {x : Expr} {p} (h : onCon x p = true) (kk : ∀ v k pos, p v = true → M (.Constant v k pos)) : M x :=
  Expr.Constant.elim (motive_1 := fun x => onCon x p = true → M x) x (onI_e h) (fun v k pos h => kk v k pos h) h
noncomputable def onName (x : Expr) (p : Str → Bool) : Bool := onI x.ctorIdx 23 fun i => Expr.Name.elim (motive_1 := fun _ => Bool) x i fun y _ => p y
@[elab_as_elim] theorem onName_e {M : Expr → Prop} {x : Expr} {p} (h : onName x p = true) (kk : ∀ y pos, p y = true → M (.Name y pos)) : M x :=
  Expr.Name.elim (motive_1 := fun x => onName x p = true → M x) x (onI_e h) (fun y pos h => kk y pos h) h
noncomputable def onTup (x : Expr) (p : List Expr → Bool) : Bool := onI x.ctorIdx 25 fun i => Expr.Tuple.elim (motive_1 := fun _ => Bool) x i fun es _ _ => p es
@[elab_as_elim] theorem onTup_e {M : Expr → Prop} {x : Expr} {p} (h : onTup x p = true) (kk : ∀ es k pos, p es = true → M (.Tuple es k pos)) : M x :=
  Expr.Tuple.elim (motive_1 := fun x => onTup x p = true → M x) x (onI_e h) (fun es k pos h => kk es k pos h) h
noncomputable def onLst (x : Expr) (p : List Expr → Bool) : Bool := onI x.ctorIdx 24 fun i => Expr.List.elim (motive_1 := fun _ => Bool) x i fun es _ => p es
@[elab_as_elim] theorem onLst_e {M : Expr → Prop} {x : Expr} {p} (h : onLst x p = true) (kk : ∀ es pos, p es = true → M (.List es pos)) : M x :=
  Expr.List.elim (motive_1 := fun x => onLst x p = true → M x) x (onI_e h) (fun es pos h => kk es pos h) h
noncomputable def onDict (x : Expr) (p : List (Option Expr) → List Expr → Bool) : Bool := onI x.ctorIdx 6 fun i => Expr.Dict.elim (motive_1 := fun _ => Bool) x i fun ks es _ => p ks es
@[elab_as_elim] theorem onDict_e {M : Expr → Prop} {x : Expr} {p} (h : onDict x p = true) (kk : ∀ ks es pos, p ks es = true → M (.Dict ks es pos)) : M x :=
  Expr.Dict.elim (motive_1 := fun x => onDict x p = true → M x) x (onI_e h) (fun ks es pos h => kk ks es pos h) h
noncomputable def onBin (x : Expr) (p : Expr → Operator → Expr → Bool) : Bool := onI x.ctorIdx 2 fun i => Expr.BinOp.elim (motive_1 := fun _ => Bool) x i fun a op b _ => p a op b
@[elab_as_elim] theorem onBin_e {M : Expr → Prop} {x : Expr} {p} (h : onBin x p = true) (kk : ∀ a op b pos, p a op b = true → M (.BinOp a op b pos)) : M x :=
  Expr.BinOp.elim (motive_1 := fun x => onBin x p = true → M x) x (onI_e h) (fun a op b pos h => kk a op b pos h) h
noncomputable def onUn (x : Expr) (p : UnaryOp → Expr → Bool) : Bool := onI x.ctorIdx 3 fun i => Expr.UnaryOp.elim (motive_1 := fun _ => Bool) x i fun op a _ => p op a
@[elab_as_elim] theorem onUn_e {M : Expr → Prop} {x : Expr} {p} (h : onUn x p = true) (kk : ∀ op a pos, p op a = true → M (.UnaryOp op a pos)) : M x :=
  Expr.UnaryOp.elim (motive_1 := fun x => onUn x p = true → M x) x (onI_e h) (fun op a pos h => kk op a pos h) h
noncomputable def onCmp (x : Expr) (p : Expr → List CmpOp → List Expr → Bool) : Bool := onI x.ctorIdx 15 fun i => Expr.Compare.elim (motive_1 := fun _ => Bool) x i fun a ops es _ => p a ops es
@[elab_as_elim] theorem onCmp_e {M : Expr → Prop} {x : Expr} {p} (h : onCmp x p = true) (kk : ∀ a ops es pos, p a ops es = true → M (.Compare a ops es pos)) : M x :=
  Expr.Compare.elim (motive_1 := fun x => onCmp x p = true → M x) x (onI_e h) (fun a ops es pos h => kk a ops es pos h) h
noncomputable def onBoo (x : Expr) (p : BoolOp → List Expr → Bool) : Bool := onI x.ctorIdx 0 fun i => Expr.BoolOp.elim (motive_1 := fun _ => Bool) x i fun op es _ => p op es
@[elab_as_elim] theorem onBoo_e {M : Expr → Prop} {x : Expr} {p} (h : onBoo x p = true) (kk : ∀ op es pos, p op es = true → M (.BoolOp op es pos)) : M x :=
  Expr.BoolOp.elim (motive_1 := fun x => onBoo x p = true → M x) x (onI_e h) (fun op es pos h => kk op es pos h) h
noncomputable def onIf (x : Expr) (p : Expr → Expr → Expr → Bool) : Bool := onI x.ctorIdx 5 fun i => Expr.IfExp.elim (motive_1 := fun _ => Bool) x i fun t a b _ => p t a b
@[elab_as_elim] theorem onIf_e {M : Expr → Prop} {x : Expr} {p} (h : onIf x p = true) (kk : ∀ t a b pos, p t a b = true → M (.IfExp t a b pos)) : M x :=
  Expr.IfExp.elim (motive_1 := fun x => onIf x p = true → M x) x (onI_e h) (fun t a b pos h => kk t a b pos h) h
noncomputable def onCall (x : Expr) (p : Expr → List Expr → List Keyword → Pos → Bool) : Bool := onI x.ctorIdx 16 fun i => Expr.Call.elim (motive_1 := fun _ => Bool) x i fun f es ks pos => p f es ks pos
@[elab_as_elim] theorem onCall_e {M : Expr → Prop} {x : Expr} {p} (h : onCall x p = true) (kk : ∀ f es ks pos, p f es ks pos = true → M (.Call f es ks pos)) : M x :=
  Expr.Call.elim (motive_1 := fun x => onCall x p = true → M x) x (onI_e h) (fun f es ks pos h => kk f es ks pos h) h
noncomputable def onAttr (x : Expr) (p : Expr → Str → Pos → Bool) : Bool := onI x.ctorIdx 20 fun i => Expr.Attribute.elim (motive_1 := fun _ => Bool) x i fun o y pos => p o y pos
@[elab_as_elim] theorem onAttr_e {M : Expr → Prop} {x : Expr} {p} (h : onAttr x p = true) (kk : ∀ o y pos, p o y pos = true → M (.Attribute o y pos)) : M x :=
  Expr.Attribute.elim (motive_1 := fun x => onAttr x p = true → M x) x (onI_e h) (fun o y pos h => kk o y pos h) h
noncomputable def onSub (x : Expr) (p : Expr → Expr → Bool) : Bool := onI x.ctorIdx 21 fun i => Expr.Subscript.elim (motive_1 := fun _ => Bool) x i fun o i _ => p o i
@[elab_as_elim] theorem onSub_e {M : Expr → Prop} {x : Expr} {p} (h : onSub x p = true) (kk : ∀ o i pos, p o i = true → M (.Subscript o i pos)) : M x :=
  Expr.Subscript.elim (motive_1 := fun x => onSub x p = true → M x) x (onI_e h) (fun o i pos h => kk o i pos h) h
noncomputable def onSlc (x : Expr) (p : Option Expr → Option Expr → Option Expr → Bool) : Bool := onI x.ctorIdx 26 fun i => Expr.Slice.elim (motive_1 := fun _ => Bool) x i fun a b st _ => p a b st
@[elab_as_elim] theorem onSlc_e {M : Expr → Prop} {x : Expr} {p} (h : onSlc x p = true) (kk : ∀ a b st pos, p a b st = true → M (.Slice a b st pos)) : M x :=
  Expr.Slice.elim (motive_1 := fun x => onSlc x p = true → M x) x (onI_e h) (fun a b st pos h => kk a b st pos h) h
noncomputable def onComp (x : Expr) (p : Expr → List Comprehension → Scope → Bool) : Bool := onI x.ctorIdx 8 fun i => Expr.ListComp.elim (motive_1 := fun _ => Bool) x i fun e gs sc _ => p e gs sc
@[elab_as_elim] theorem onComp_e {M : Expr → Prop} {x : Expr} {p} (h : onComp x p = true) (kk : ∀ e gs sc pos, p e gs sc = true → M (.ListComp e gs sc pos)) : M x :=
  Expr.ListComp.elim (motive_1 := fun x => onComp x p = true → M x) x (onI_e h) (fun e gs sc pos h => kk e gs sc pos h) h
noncomputable def onEx (x : Stmt) (p : Expr → Bool) : Bool := onI x.ctorIdx 24 fun i => Stmt.Expr.elim (motive_2 := fun _ => Bool) x i fun e _ => p e
@[elab_as_elim] theorem onEx_e {M : Stmt → Prop} {x : Stmt} {p} (h : onEx x p = true) (kk : ∀ e pos, p e = true → M (.Expr e pos)) : M x :=
  Stmt.Expr.elim (motive_2 := fun x => onEx x p = true → M x) x (onI_e h) (fun e pos h => kk e pos h) h
noncomputable def onAsg (x : Stmt) (p : List Expr → Expr → Bool) : Bool := onI x.ctorIdx 5 fun i => Stmt.Assign.elim (motive_2 := fun _ => Bool) x i fun ts e _ => p ts e
@[elab_as_elim] theorem onAsg_e {M : Stmt → Prop} {x : Stmt} {p} (h : onAsg x p = true) (kk : ∀ ts e pos, p ts e = true → M (.Assign ts e pos)) : M x :=
  Stmt.Assign.elim (motive_2 := fun x => onAsg x p = true → M x) x (onI_e h) (fun ts e pos h => kk ts e pos h) h
noncomputable def onIff (x : Stmt) (p : Expr → List Stmt → List Stmt → Bool) : Bool := onI x.ctorIdx 12 fun i => Stmt.If.elim (motive_2 := fun _ => Bool) x i fun t a b _ => p t a b
@[elab_as_elim] theorem onIff_e {M : Stmt → Prop} {x : Stmt} {p} (h : onIff x p = true) (kk : ∀ t a b pos, p t a b = true → M (.If t a b pos)) : M x :=
  Stmt.If.elim (motive_2 := fun x => onIff x p = true → M x) x (onI_e h) (fun t a b pos h => kk t a b pos h) h
noncomputable def onWhile (x : Stmt) (p : Expr → List Stmt → List Stmt → Bool) : Bool := onI x.ctorIdx 11 fun i => Stmt.While.elim (motive_2 := fun _ => Bool) x i fun t a b _ => p t a b
@[elab_as_elim] theorem onWhile_e {M : Stmt → Prop} {x : Stmt} {p} (h : onWhile x p = true) (kk : ∀ t a b pos, p t a b = true → M (.While t a b pos)) : M x :=
  Stmt.While.elim (motive_2 := fun x => onWhile x p = true → M x) x (onI_e h) (fun t a b pos h => kk t a b pos h) h
noncomputable def onFor (x : Stmt) (p : Expr → Expr → List Stmt → List Stmt → Bool) : Bool := onI x.ctorIdx 9 fun i => Stmt.For.elim (motive_2 := fun _ => Bool) x i fun t i a b _ => p t i a b
@[elab_as_elim] theorem onFor_e {M : Stmt → Prop} {x : Stmt} {p} (h : onFor x p = true) (kk : ∀ t i a b pos, p t i a b = true → M (.For t i a b pos)) : M x :=
  Stmt.For.elim (motive_2 := fun x => onFor x p = true → M x) x (onI_e h) (fun t i a b pos h => kk t i a b pos h) h
noncomputable def onRet (x : Stmt) (p : Option Expr → Bool) : Bool := onI x.ctorIdx 3 fun i => Stmt.Return.elim (motive_2 := fun _ => Bool) x i fun e _ => p e
@[elab_as_elim] theorem onRet_e {M : Stmt → Prop} {x : Stmt} {p} (h : onRet x p = true) (kk : ∀ e pos, p e = true → M (.Return e pos)) : M x :=
  Stmt.Return.elim (motive_2 := fun x => onRet x p = true → M x) x (onI_e h) (fun e pos h => kk e pos h) h
noncomputable def notStar (e : Expr) : Bool := !(e.ctorIdx == 22)
noncomputable def chkL (f : CE → Expr → Bool) : List CE → List Expr → Bool
  | [], [] => true
  | ce :: ces, e :: es => f ce e && notStar e && chkL f ces es
  | _, _ => false
noncomputable def booOf : Bool → BoolOp
  | true => .And
  | false => .Or
noncomputable def chkO (f : CE → Expr → Bool) : Option CE → Option Expr → Bool
  | none, none => true
  | some ce, some e => f ce e
  | _, _ => false
noncomputable def notSet (e : Expr) : Bool := !(e.ctorIdx == 7)
noncomputable def bltName : Blt → Str
  | .abs => "abs" | .len => "len" | .min => "min" | .max => "max" | .tuple => "tuple" | .list => "list" | .range => "range" | .sorted => "sorted"
noncomputable def one1 (es : List Expr) : Bool := match es with | [_] => true | _ => false
noncomputable def plainTest : Expr → Bool
  | .UnaryOp op _ _ => op != .Not
  | .BoolOp _ _ _ => false
  | .IfExp _ _ _ _ => false
  | .Compare _ ops es _ => (match ops with | [_] => true | _ => false) && one1 es
  | _ => true
noncomputable def notBare (e : Expr) : Bool := !(onCall e fun f es ks _ => onName f fun _ => es.isEmpty && ks.isEmpty)
noncomputable def okVar (c : Nm) (sc : Sc) (x : Nat) (y : Str) : Bool := decide (x < c.N) && (c.nm x == y) && (sc.lookup y == some .local || sc.lookup y == some .cell)
mutual
noncomputable def chkT (f : Nat → Str → Bool) : CT → Expr → Bool
  | .name x, e => onName e (f x)
  | .tup ts, e => onTup e (chkTs f ts)
noncomputable def chkTs (f : Nat → Str → Bool) : List CT → List Expr → Bool
  | [], [] => true
  | t :: ts, e :: es => chkT f t e && chkTs f ts es
  | _, _ => false
end
noncomputable def chkSL (f : CS → Stmt → Bool) : List CS → List Stmt → Bool
  | [], [] => true
  | cs :: css, st :: sts => f cs st && chkSL f css sts
  | _, _ => false
noncomputable def isComp (e : Expr) : Bool := e.ctorIdx == 8 || (e.ctorIdx == 9 || e.ctorIdx == 10)
noncomputable def notTup (e : Expr) : Bool := !(e.ctorIdx == 25)
noncomputable def chkNames (f : Nat → Str → Bool) : List Nat → List Expr → Bool
  | [], [] => true
  | x :: xs, e :: es => onName e (f x) && chkNames f xs es
  | _, _ => false
mutual
noncomputable def varsT : CT → List Nat
  | .name x => [x]
  | .tup ts => varsTs ts
noncomputable def varsTs : List CT → List Nat
  | [] => []
  | t :: ts => varsT t ++ varsTs ts
end
noncomputable def chkDom : List Nat → List (CT × CE × List CE) → Bool
  | _, [] => true
  | S, g :: r => (varsT g.1).all (fun y => !S.contains y) && chkDom (varsT g.1 ++ S) r
noncomputable def chkCl (fT : Nat → Str → Bool) (K KB : CE → Expr → Bool) (g : CT × CE × List CE) (m : Comprehension) : Bool := chkT fT g.1 m.target && (notSet m.iter && (K g.2.1 m.iter && (chkL KB g.2.2 m.ifs && m.is_async == 0)))
noncomputable def chkCls (fT : Nat → Str → Bool) (K KB : CE → Expr → Bool) : List (CT × CE × List CE) → List Comprehension → Bool
  | [], [] => true
  | x :: xs, g :: gs => chkCl fT K KB x g && chkCls fT K KB xs gs
  | _, _ => false
noncomputable def chkComp (c : Nm) (sc : Sc) (K : Sc → CE → Expr → Bool) (KB : Sc → CE → Expr → Bool) (fv : List Nat) (celt : CE) (cgens : List (CT × CE × List CE)) (elt : Expr) (gens : List Comprehension) (scope : Scope) : Bool :=
  scope.kind == .function && decide ((scope.names.map (·.1)).Nodup) && scope.names.all (fun p => p.2 != .free || (sc.lookup p.1 == some .cell || sc.lookup p.1 == some .free)) &&
  fv.all (fun x => decide (x < c.N) && (scope.names.lookup (c.nm x) == some .free)) && chkDom fv cgens &&
  (match cgens, gens with
   | g :: cgs, m :: gs => K sc g.2.1 m.iter && (chkCl (okVar c scope.names) (fun _ _ => true) (KB scope.names) g m && (chkCls (okVar c scope.names) (K scope.names) (KB scope.names) cgs gs && K scope.names celt elt))
   | _, _ => false)
end Mine.Internal
set_option backward.match.sparseCases false
namespace Mine.Internal
open PySem PySem.W PyProof.Rows
noncomputable def on1 (es : List Expr) (p : Expr → Bool) : Bool := match es with | [a] => p a | _ => false
@[elab_as_elim] theorem on1_e {M : List Expr → Prop} {es p} (h : on1 es p = true) (k : ∀ a, p a = true → M [a]) : M es := match es, h with
  | [], h => nB h
  | [a], h => k a h
  | _ :: _ :: _, h => nB h
noncomputable def on2 (es : List Expr) (p : Expr → Expr → Bool) : Bool := match es with | [a, b] => p a b | _ => false
@[elab_as_elim] theorem on2_e {M : List Expr → Prop} {es p} (h : on2 es p = true) (k : ∀ a b, p a b = true → M [a, b]) : M es := match es, h with
  | [], h => nB h
  | [_], h => nB h
  | [a, b], h => k a b h
  | _ :: _ :: _ :: _, h => nB h
noncomputable def onOp1 (es : List CmpOp) (p : CmpOp → Bool) : Bool := match es with | [a] => p a | _ => false
@[elab_as_elim] theorem onOp1_e {M : List CmpOp → Prop} {es p} (h : onOp1 es p = true) (k : ∀ a, p a = true → M [a]) : M es := match es, h with
  | [], h => nB h
  | [a], h => k a h
  | _ :: _ :: _, h => nB h
@[elab_as_elim] theorem nil_e {α : Type} {M : List α → Prop} {es} (h : es.isEmpty = true) (k : M []) : M es := match es, h with
  | [], _ => k
  | _ :: _, h => nB h
@[elab_as_elim] theorem none_e {α : Type} {M : Option α → Prop} {o} (h : o.isNone = true) (k : M none) : M o := match o, h with
  | none, _ => k
  | some _, h => nB h
noncomputable def onSome (o : Option Expr) (p : Expr → Bool) : Bool := match o with | some e => p e | none => false
@[elab_as_elim] theorem onSome_e {M : Option Expr → Prop} {o p} (h : onSome o p = true) (k : ∀ e, p e = true → M (some e)) : M o := match o, h with
  | none, h => nB h
  | some e, h => k e h
theorem an_e {a b : Bool} {M : Prop} (h : (a && b) = true) (k : a = true → b = true → M) : M :=
  ((Bool.and_eq_true _ _).mp h).elim k
@[elab_as_elim] theorem eq_e {α : Type} [BEq α] [LawfulBEq α] {a b : α} {M : α → Prop} (h : (a == b) = true) (k : M a) : M b := beq_iff_eq.mp h ▸ k
theorem ne_e {a b : Str} (h : (!(a == b)) = true) : a ≠ b := ne_of_beq_false (by cases q : a == b <;> first | rfl | (rw [q] at h; exact nB h))
theorem not_e {b : Bool} (h : (!b) = true) : b = false := match b, h with
  | false, _ => rfl
noncomputable def isG (sc : Sc) (y : Str) : Bool := sc.lookup y == some .globalImplicit
theorem isG_of {sc : Sc} {y : Str} (h : isG sc y = true) : sc.lookup y = some .globalImplicit := beq_iff_eq.mp h
noncomputable def onFn (x : Expr) (p : Str → List Expr → Bool) : Bool := onCall x fun f es ks _ => ks.isEmpty && onName f fun y => p y es
@[elab_as_elim] theorem onFn_e {M : Expr → Prop} {x p} (h : onFn x p = true) (k : ∀ y p1 es pos, p y es = true → M (.Call (.Name y p1) es [] pos)) : M x :=
  onCall_e h fun f es ks pos h => an_e h fun h1 h2 => nil_e h1 (onName_e h2 fun y p1 h => k y p1 es pos h)
noncomputable def onM (x : Expr) (p : Expr → Str → List Expr → Bool) : Bool := onCall x fun f es ks pos => ks.isEmpty && onAttr f fun o y ap => notBare o && ((ap.endLine == pos.line) && p o y es)
@[elab_as_elim] theorem onM_e {M : Expr → Prop} {x p} (h : onM x p = true) (k : ∀ o y ap es pos, notBare o = true → (ap.endLine == pos.line) = true → p o y es = true → M (.Call (.Attribute o y ap) es [] pos)) : M x :=
  onCall_e h fun f es ks pos h => an_e h fun h1 h2 => nil_e h1 (onAttr_e h2 fun o y ap h => an_e h fun h3 h => an_e h fun h4 h5 => k o y ap es pos h3 h4 h5)
noncomputable def plainCE : CE → Bool
  | .not _ => false
  | .boo _ _ _ => false
  | .ite _ _ _ => false
  | _ => true
mutual
noncomputable def chkE (c : Nm) (flds : List Nat) : Nat → Sc → CE → Expr → Bool
  | 0, _, _, _ => false
  | n + 1, sc, ce, e => match ce with
    | .cnone => onCon e fun v => .none == v
    | .cbool b => onCon e fun v => .bool b == v
    | .cint i => onCon e fun v => .int i == v
    | .cstr i => decide (i < 9) && onCon e fun v => .str (strT i) == v
    | .loc x => onName e fun y => c.nm x == y
    | .frz ce => chkE c flds n sc ce e
    | .tup ces => decide (ces.length ≤ 64) && onTup e fun es => chkL (chkE c flds n sc) ces es
    | .lst _ ces => decide (ces.length ≤ 64) && onLst e fun es => chkL (chkE c flds n sc) ces es
    | .edict => onDict e fun ks es => ks.isEmpty && es.isEmpty
    | .bin op a b => onBin e fun ea op' eb => (opOf op == op') && (chkE c flds n sc a ea && chkE c flds n sc b eb)
    | .neg a => onUn e fun op ea => (.USub == op) && chkE c flds n sc a ea
    | .not a => onUn e fun op ea => (.Not == op) && chkE c flds n sc a ea
    | .cmp op a b => onCmp e fun ea ops es => (onOp1 ops fun op' => copOf op == op') && (chkE c flds n sc a ea && on1 es fun eb => chkE c flds n sc b eb && notSet eb)
    | .boo ia a b => onBoo e fun op' es => (booOf ia == op') && on2 es fun ea eb => chkE c flds n sc a ea && chkE c flds n sc b eb
    | .ite t a b => onIf e fun et ea eb => chkB c flds n sc t et && (chkE c flds n sc a ea && chkE c flds n sc b eb)
    | .call f ces => onFn e fun y es => (c.fN f == y) && (!(c.fN f == "") && (isG sc (c.fN f) && chkL (chkE c flds n sc) ces es))
    | .blt b ces => onFn e fun y es => (bltName b == y) && (isG sc (bltName b) && chkL (chkE c flds n sc) ces es)
    | .tupzip a b => onFn e fun y es => ("tuple" == y) && (isG sc "tuple" && on1 es fun e2 => onFn e2 fun y2 es2 => ("zip" == y2) && (isG sc "zip" && on2 es2 fun ea eb => chkL (chkE c flds n sc) [a, b] [ea, eb]))
    | .sortset a => onFn e fun y es => ("sorted" == y) && (isG sc "sorted" && on1 es fun e2 => onFn e2 fun y2 es2 => ("set" == y2) && (isG sc "set" && on1 es2 fun ea => chkL (chkE c flds n sc) [a] [ea]))
    | .meth o m ces => onM e fun eo y es => (c.nm m == y) && (chkE c flds n sc o eo && (chkL (chkE c flds n sc) ces es && decide (es.length < 30)))
    | .app o e1 => onM e fun eo y es => ("append" == y) && (chkE c flds n sc o eo && on1 es fun ee => chkE c flds n sc e1 ee && notStar ee)
    | .ext o e1 => onM e fun eo y es => ("extend" == y) && (chkE c flds n sc o eo && on1 es fun ee => chkE c flds n sc e1 ee && notStar ee)
    | .popl o => onM e fun eo y es => ("pop" == y) && (chkE c flds n sc o eo && es.isEmpty)
    | .new q ces => onFn e fun y es => (c.cN q == y) && (!(c.cN q == "") && (isG sc (c.cN q) && chkL (chkE c flds n sc) ces es))
    | .attr o f => onAttr e fun eo y _ => (c.nm f == y) && (flds.contains f && (chkE c flds n sc o eo && notBare eo))
    | .idx o i => onSub e fun eo ei => chkE c flds n sc o eo && chkE c flds n sc i ei
    | .slc o lo hi => onSub e fun eo ei => chkE c flds n sc o eo && onSlc ei fun el eh st => chkO (chkE c flds n sc) lo el && (chkO (chkE c flds n sc) hi eh && st.isNone)
    | .comp _ fv elt gens => onComp e fun eelt egens scope => chkComp c sc (chkE c flds n) (chkB c flds n) fv elt gens eelt egens scope
noncomputable def chkB (c : Nm) (flds : List Nat) : Nat → Sc → CE → Expr → Bool
  | 0, _, _, _ => false
  | n + 1, sc, ce, e => match ce with
    | .not a => onUn e fun op ea => (.Not == op) && chkB c flds n sc a ea
    | .boo ia a b => onBoo e fun op' es => (booOf ia == op') && on2 es fun ea eb => chkB c flds n sc a ea && chkB c flds n sc b eb
    | .ite t a b => onIf e fun et ea eb => chkB c flds n sc t et && (chkB c flds n sc a ea && chkB c flds n sc b eb)
    | ce => plainTest e && chkE c flds n sc ce e
end
noncomputable def chkS (c : Nm) (flds : List Nat) : Nat → Sc → CS → Stmt → Bool
  | 0, _, _, _ => false
  | n + 1, sc, cs, st => match cs with
    | .ex ce => onEx st fun e => chkE c flds n sc ce e && !isComp e
    | .asg t ce => onAsg st fun ts e => on1 ts fun te => match t with
      | .name x => onName te fun y => okVar c sc x y && (match ce with
        | .comp _ fv elt gens => onComp e fun eelt egens scope => chkComp c sc (chkE c flds n) (chkB c flds n) fv elt gens eelt egens scope
        | _ => chkE c flds n sc ce e && !isComp e)
      | .tup ts => onTup te fun es => chkE c flds n sc ce e && (!isComp e && (notTup e && chkTs (okVar c sc) ts es))
      | .attr o f => onAttr te fun eo y _ => (c.nm f == y) && (flds.contains f && (chkE c flds n sc ce e && chkE c flds n sc o eo))
      | .idx o i => onSub te fun eo ei => chkE c flds n sc ce e && (chkE c flds n sc o eo && chkE c flds n sc i ei)
    | .asgT xs ces => onAsg st fun ts e => on1 ts fun te => onTup te fun es => onTup e fun vs => chkL (chkE c flds n sc) ces vs && (decide (ces.length ≤ 64) && (chkNames (okVar c sc) xs es && (decide xs.Nodup && !vs.all (constantsAlone 8))))
    | .iff t a b => onIff st fun et ea eb => chkB c flds n sc t et && (chkSL (chkS c flds n sc) a ea && chkSL (chkS c flds n sc) b eb)
    | .whil t body => onWhile st fun et eb z => z.isEmpty && (chkB c flds n sc t et && chkSL (chkS c flds n sc) body eb)
    | .forEnum t ce body => onFor st fun te ie eb z => z.isEmpty && (match t with
      | .tup ts => onFn ie fun y es => ("enumerate" == y) && (isG sc "enumerate" && on1 es fun ie => chkL (chkE c flds n sc) [ce] [ie] && (chkT (okVar c sc) (.tup ts) te && chkSL (chkS c flds n sc) body eb))
      | .name _ => false)
    | .for_ t ce body => onFor st fun te ie eb z => z.isEmpty && (chkE c flds n sc ce ie && (notSet ie && (chkT (okVar c sc) t te && chkSL (chkS c flds n sc) body eb)))
    | .ret none => onRet st fun o => o.isNone
    | .ret (some ce) => onRet st fun o => onSome o fun e => chkE c flds n sc ce e
end Mine.Internal
set_option backward.match.sparseCases true
namespace Mine.Internal
open PySem PySem.W PyProof.Rows
noncomputable def nmOf (i : Nat) : Str := Str.ofString (nmT.getD i "")
noncomputable def fNm (f : Nat) : Str := Str.ofString (if f < 9 ∨ (33 ≤ f ∧ f < 44) then fnNames.getD f "" else "")
noncomputable def cNm (k : Nat) : Str := Str.ofString (["Store", "LexOrder", "Increasing"].getD k "")
noncomputable def fldsT : List Nat := [14, 15, 16, 17, 18, 19, 20, 21, 31, 32, 33, 36, 37, 38, 39]
noncomputable def nm0 : Nm := ⟨nmOf, nmT.length, fNm, cNm⟩
noncomputable def onObj (K : Frag) (a : Addr) (p : Data → Bool) : Bool := match K.lookup a with | some ⟨_, _, d, _⟩ => p d | none => false
theorem onObj_e {K : Frag} {a p} (h : onObj K a p = true) : ∃ oc od d sl, K.lookup a = some ⟨oc, od, d, sl⟩ ∧ p d = true := by
  unfold onObj at h
  cases e : K.lookup a with
  | none => rw [e] at h; exact nB h
  | some o => obtain ⟨oc, od, d, sl⟩ := o; rw [e] at h; exact ⟨oc, od, d, sl, rfl, h⟩
noncomputable def onFunc (x : Data) (p : FuncData → Bool) : Bool := onI x.ctorIdx 7 fun i => Data.func.elim (motive := fun _ => Bool) x i fun f => p f
@[elab_as_elim] theorem onFunc_e {M : Data → Prop} {x : Data} {p} (h : onFunc x p = true) (kk : ∀ f, p f = true → M (.func f)) : M x :=
  Data.func.elim (motive := fun x => onFunc x p = true → M x) x (onI_e h) (fun f h => kk f h) h
noncomputable def onFields (x : Data) (p : Array Value → Bool) : Bool := onI x.ctorIdx 9 fun i => Data.fields.elim (motive := fun _ => Bool) x i fun f => p f
@[elab_as_elim] theorem onFields_e {M : Data → Prop} {x : Data} {p} (h : onFields x p = true) (kk : ∀ f, p f = true → M (.fields f)) : M x :=
  Data.fields.elim (motive := fun x => onFields x p = true → M x) x (onI_e h) (fun f h => kk f h) h
noncomputable def onCell (x : Data) (p : Option Value → Bool) : Bool := onI x.ctorIdx 6 fun i => Data.cell.elim (motive := fun _ => Bool) x i fun f => p f
@[elab_as_elim] theorem onCell_e {M : Data → Prop} {x : Data} {p} (h : onCell x p = true) (kk : ∀ f, p f = true → M (.cell f)) : M x :=
  Data.cell.elim (motive := fun x => onCell x p = true → M x) x (onI_e h) (fun f h => kk f h) h
noncomputable def onV (x : Option Value) (p : Value → Bool) : Bool := match x with | some v => p v | none => false
@[elab_as_elim] theorem onV_e {M : Option Value → Prop} {x} {p} (h : onV x p = true) (k : ∀ v, p v = true → M (some v)) : M x := match x, h with
  | some v, h => k v h
  | none, h => nomatch h
noncomputable def onRef (x : Value) (p : Addr → Bool) : Bool := onI x.ctorIdx 10 fun i => Value.ref.elim (motive := fun _ => Bool) x i fun a => p a
@[elab_as_elim] theorem onRef_e {M : Value → Prop} {x : Value} {p} (h : onRef x p = true) (kk : ∀ v, p v = true → M (.ref v)) : M x :=
  Value.ref.elim (motive := fun x => onRef x p = true → M x) x (onI_e h) (fun v h => kk v h) h
noncomputable def onStr (x : Value) (p : Str → Bool) : Bool := onI x.ctorIdx 6 fun i => Value.str.elim (motive := fun _ => Bool) x i fun a _ => p a
@[elab_as_elim] theorem onStr_e {M : Value → Prop} {x : Value} {p} (h : onStr x p = true) (kk : ∀ v t, p v = true → M (.str v t)) : M x :=
  Value.str.elim (motive := fun x => onStr x p = true → M x) x (onI_e h) (fun v t h => kk v t h) h
noncomputable def noVal : Value → Bool
  | .none => true
  | _ => false
theorem noVal_e {x} (h : noVal x = true) : x = .none := by cases x <;> first | rfl | exact nB h
noncomputable def onBody (x : FuncBody) (p : List Stmt → Bool) : Bool := match x with | .stmts b => p b | _ => false
theorem onBody_e {x p} (h : onBody x p = true) : ∃ b, x = .stmts b ∧ p b = true := by cases x <;> first | exact ⟨_, rfl, h⟩ | exact nB h
noncomputable def argsOf (a : Arguments) : Bool := a.posonlyargs.isEmpty && (a.vararg.isNone && (a.kwonlyargs.isEmpty && (a.kwarg.isNone && a.defaults.isEmpty)))
theorem argsOf_e {a : Arguments} (h : argsOf a = true) : a = ⟨[], a.args, none, [], a.kw_defaults, none, []⟩ := by
  obtain ⟨a1, a2, a3, a4, a5, a6, a7⟩ := a
  have h : (a1.isEmpty && (a3.isNone && (a4.isEmpty && (a6.isNone && a7.isEmpty)))) = true := h
  exact an_e h fun h1 h => an_e h fun h2 h => an_e h fun h3 h => an_e h fun h4 h5 => nil_e h1 (none_e h2 (nil_e h3 (none_e h4 (nil_e h5 rfl))))
noncomputable def scOK (s : Scope) : Bool := !s.isCoroutine && (!s.isGenerator && ((s.kind == .function) && decide ((s.names.map (·.1)).Nodup)))
theorem scOK_e {s : Scope} (h : scOK s = true) : s.isCoroutine = false ∧ s.isGenerator = false ∧ s.kind = .function ∧ (s.names.map (·.1)).Nodup :=
  an_e h fun h1 h => an_e h fun h2 h => an_e h fun h3 h4 => ⟨not_e h1, not_e h2, beq_iff_eq.mp h3, of_decide_eq_true h4⟩
noncomputable def fnCore (c : Nm) (K : Frag) (Fd : FuncData) (ps : List Nat) : Bool := argsOf Fd.params && (noVal Fd.defaults && (scOK Fd.scope && ((Fd.globals == mainGlobals) && ((Fd.builtins == builtinsNs) && (codeIn K Fd.code Fd.qualname && ((Fd.params.args.map (·.arg) == ps.map c.nm) && (decide ps.Nodup && ps.all (fun x => decide (x < c.N) && (Fd.scope.names.lookup (c.nm x) == some .local || Fd.scope.names.lookup (c.nm x) == some .cell)))))))))
noncomputable def fnChk (c : Nm) (flds : List Nat) (K : Frag) (a : Addr) (fd : FnC) : Bool := onObj K a fun d => onFunc d fun Fd => fnCore c K Fd fd.params && (Fd.closure.isEmpty && (Fd.scope.names.all (fun p => p.2 != .free) && onBody Fd.body fun body => chkSL (chkS c flds 40 Fd.scope.names) fd.body body))
noncomputable def fAs : List Addr := [28, 35, 54, 59, 66, 73, 80, 87, 94, 108, 115, 122, 129, 143, 150, 185, 192, 199, 206, 213, 220, 227, 262, 306, 313, 320, 327, 334, 341, 362, 369, 376, 383, 393, 400, 405, 410, 415, 422, 427, 432, 437, 444, 449]
noncomputable def fA0 (f : Nat) : Addr := fAs.getD f 0
noncomputable def cA0 (k : Nat) : Addr := [244, 344, 386].getD k 0
noncomputable def gChk (K : Frag) : Bool :=
  (["abs", "len", "min", "max", "tuple", "list", "range", "sorted", "set", "zip", "enumerate", "super"].all fun x => nsIn K mainGlobals (Str.ofString x) == some none) &&
  ((List.range 44).all fun f => (fNm f == "") || ((nsIn K mainGlobals (fNm f) == some (some (.ref (fA0 f)))) && (!(fNm f == ("__debug__" : Str)) && fnIn K (fA0 f)))) &&
  ((List.range 3).all fun k => (nsIn K mainGlobals (cNm k) == some (some (.ref (cA0 k)))) && !(cNm k == ("__debug__" : Str)))
noncomputable def cChk (K : Frag) (k : Nat) : Bool :=
  plainGet K (cA0 k) "" && hasDictIn K (cA0 k) && (findIn K (.ref (cA0 k)) "__setattr__" == some (some (.builtin "object.__setattr__"))) && plainOver K (cA0 k) && makesIn K (cA0 k) && keepIn K (.ref (cA0 k)) &&
  (fldsT.all fun f => decide (f < nmT.length) && (findIn K (.ref (cA0 k)) (nmOf f) == some none)) &&
  ((List.range nmT.length).all fun m => match methT k m with
    | some f => (findIn K (.ref (cA0 k)) (nmOf m) == some (some (.ref (fA0 f)))) && isFn K (.ref (fA0 f)) && keepIn K (.ref (fA0 f))
    | none => true) &&
  (match initT k with
    | some f => (findIn K (.ref (cA0 k)) "__init__" == some (some (.ref (fA0 f)))) && (typeIn K (.ref (fA0 f)) == some (.type "function"))
    | none => true)
noncomputable def mainFile : Str := PySem.Challenge.pw_no0309_01.main.file
noncomputable def clsChk (K : Frag) (k g : Nat) (v : Value) : Bool := onRef v fun D => (clsIn K D).isSome && ((mroIn K (cA0 k) (.ref D) == some true) && (ks_superIn K (cA0 k) D "__init__" == some (some (.ref (fA0 g)))))
noncomputable def fileChk (K : Frag) (v : Value) : Bool := onRef v fun a => onObj K a fun d => onFields d fun vs => onV vs[2]? fun x => onStr x fun f => mainFile == f
noncomputable def supCall (e : Expr) (p : List Expr → Bool) : Bool := onCall e fun g es ks pos => ks.isEmpty && onAttr g fun o z ap => (ap.endLine == pos.line) && (("__init__" == z) && (onFn o fun y es0 => ("super" == y) && (es0.isEmpty && (decide (es.length < 30) && p es))))
noncomputable def supScope (sc : Sc) : Bool := (sc.lookup ("super" : Str) == some .globalImplicit) && ((sc.lookup ("__class__" : Str) == some .free) && sc.all fun p => !(p.2 == .cell) && (!(p.2 == .free) || (p.1 == ("__class__" : Str))))
noncomputable def hd1 (b : List Stmt) (p : Expr → List Stmt → Bool) : Bool := match b with | st :: rest => onEx st fun e => p e rest | [] => false
noncomputable def clo1 (cl : List (Str × Addr)) (p : Addr → Bool) : Bool := match cl with | [(x, cc)] => ("__class__" == x) && p cc | _ => false
noncomputable def ps1 (ps : List Nat) (p : Nat → Bool) : Bool := match ps with | x :: _ => p x | [] => false
noncomputable def supChk (c : Nm) (flds : List Nat) (K : Frag) (a : Addr) (fd : FnC) (k g : Nat) (ces : List CE) : Bool := onObj K a fun d => onFunc d fun Fd =>
  fnCore c K Fd fd.params && ((ps1 fd.params fun x => Fd.scope.names.lookup (c.nm x) == some .local) && (supScope Fd.scope.names && ((clo1 Fd.closure fun cc => onObj K cc fun d => onCell d fun v => onV v (clsChk K k g)) && (fileChk K Fd.code &&
    ((onBody Fd.body fun body => hd1 body fun e rest => supCall e fun es => chkL (chkE c flds 40 Fd.scope.names) ces es && chkSL (chkS c flds 40 Fd.scope.names) fd.body rest) &&
      ((typeIn K (.ref (fA0 g)) == some (.type "function")) && (fnIn K (fA0 g) && (nsIn K cStatics "thirdparty.any" == some none))))))))
noncomputable def fnTab : List (FnC × Nat) := prog.fn.zipIdx.filter fun p => p.2 != 23 && p.2 != 29
noncomputable def asK : List Addr := [2, 3, 15, 17, 18, 20, 21, 22, 24, 25, 27, 28, 29, 31, 32, 34, 35, 36, 38, 39, 41, 42, 43, 45, 46, 48, 49, 50, 53, 54, 55, 58, 59, 60, 62, 63, 65, 66, 67, 69, 70, 72, 73, 74, 76, 77, 79, 80, 81, 83, 84, 86, 87, 88, 90, 91, 93, 94, 102, 104, 105, 107, 108, 109, 111, 112, 114, 115, 116, 118, 119, 121, 122, 123, 125, 126, 128, 129, 130, 132, 133, 135, 136, 137, 139, 140, 142, 143, 144, 146, 147, 149, 150, 151, 153, 154, 156, 157, 158, 160, 161, 163, 164, 165, 167, 168, 170, 171, 172, 174, 175, 177, 178, 179, 181, 182, 184, 185, 186, 188, 189, 191, 192, 193, 195, 196, 198, 199, 200, 202, 203, 205, 206, 207, 209, 210, 212, 213, 214, 216, 217, 219, 220, 221, 223, 224, 226, 227, 228, 230, 231, 233, 234, 235, 237, 238, 240, 241, 242, 243, 244, 245, 246, 256, 258, 259, 261, 262, 263, 265, 266, 268, 269, 270, 272, 273, 275, 276, 277, 279, 280, 282, 283, 284, 285, 286, 287, 288, 291, 294, 299, 300, 302, 303, 305, 306, 307, 309, 310, 312, 313, 314, 316, 317, 319, 320, 321, 323, 324, 326, 327, 328, 330, 331, 333, 334, 335, 337, 338, 340, 341, 342, 343, 344, 347, 350, 355, 356, 358, 359, 361, 362, 363, 365, 366, 368, 369, 370, 372, 373, 375, 376, 377, 379, 380, 382, 383, 384, 385, 386, 389, 392, 393, 394, 396, 397, 399, 400, 401, 404, 405, 406, 409, 410, 411, 414, 415, 416, 418, 419, 421, 422, 423, 426, 427, 428, 431, 432, 433, 436, 437, 438, 440, 441, 443, 444, 445, 448, 449]
noncomputable def frag (as : List Addr) (h : Heap) : Frag := as.filterMap fun a => (h.get? a).map fun o => (a, o)
theorem frag_in (h : Heap) : ∀ as : List Addr, (frag as h).In h
  | [], a, o, e => by cases e
  | b :: as, a, o, e => by
    unfold frag at e
    rw [List.filterMap_cons] at e
    cases hb : h.get? b with
    | none => rw [hb] at e; exact frag_in h as a o e
    | some o' =>
      rw [hb] at e
      change List.lookup a ((b, o') :: _) = _ at e
      rw [List.lookup_cons] at e
      cases q : a == b with
      | true => rw [q] at e; cases e; rw [beq_iff_eq.mp q]; exact hb
      | false => rw [q] at e; exact frag_in h as a o e
noncomputable def sup23 : List CE := [(.bin .add (.blt .tuple [(.loc 34)]) (.blt .tuple [(.loc 35)])), (.cstr 4)]
noncomputable def sup29 : List CE := [(.loc 53), (.cstr 5)]
noncomputable def chkAll (K : Frag) : Bool := gChk K && (cChk K 0 && (cChk K 1 && (cChk K 2 && ((fnTab.all fun p => p.1.sup.isNone && fnChk nm0 fldsT K (fA0 p.2) p.1) && (supChk nm0 fldsT K (fA0 23) f_LexOrder_init 1 22 sup23 && supChk nm0 fldsT K (fA0 29) f_Increasing_init 2 22 sup29)))))
noncomputable def myHook : Hook := ⟨Bool, fun s => chkAll (frag asK s.heap), fun _ => true, fun _ h => ∃ K : Frag, K.In h ∧ chkAll K = true, fun _ s e => ⟨_, frag_in _ _, e⟩, fun _ h h' ⟨K, a, b⟩ k => ⟨K, a.keeps k, b⟩⟩
noncomputable def view : Program := { PySem.Challenge.pw_no0309_01 with main := { PySem.Challenge.pw_no0309_01.main with body := (((PySem.Challenge.pw_no0309_01.main.body.eraseIdx 20).eraseIdx 17).eraseIdx 14).eraseIdx 1 } }
abbrev rowO : OpenRow := PySem.Challenge.rw_no0309_01.row
end Mine.Internal
set_option maxHeartbeats 8000000
namespace Mine.Internal
open PySem PySem.W PyProof.Rows
theorem left1 (w : World) : (openEnds treeTable rowO.prog w 5476).map (fun s => openSeen view [Str.ofString "has_domains"] (importedModules rowO.prog.main.body) (fun s => xlAt view [] s && recOk (RowW.records rowO.toRowW) s) true s) = some (openGood view [Str.ofString "has_domains"]) := by
  unfold openEnds fencedOpening topFrom topStub
  rw [PySem.W.Fast.te10274390034422433532, PySem.W.Fast.te1435165496053646825, PySem.W.Fast.te14289696077712309145, PySem.W.Fast.te14082659384304107361, PySem.W.Fast.te8920871248978507458, PySem.W.Fast.te14364793385576792824, PySem.W.Fast.te4187177175401517315, PySem.W.Fast.te5923862056798008813]
  simp only [PySem.W.Fast.te17154629097778926822, PySem.W.Fast.te12822647523644345616]
  kernel_rfl
theorem left2 (w : World) : (openEnds treeTable rowO.prog w 5476).map (fun s => chkAll (frag asK s.heap)) = some true := by
  unfold openEnds fencedOpening topFrom topStub
  rw [PySem.W.Fast.te10274390034422433532, PySem.W.Fast.te1435165496053646825, PySem.W.Fast.te14289696077712309145, PySem.W.Fast.te14082659384304107361, PySem.W.Fast.te8920871248978507458, PySem.W.Fast.te14364793385576792824, PySem.W.Fast.te5923862056798008813]
  simp only [PySem.W.Fast.te17154629097778926822, PySem.W.Fast.te12822647523644345616]
  kernel_rfl
theorem left0 : LeftO rowO.prog view [Str.ofString "has_domains"] (fun s => xlAt view [] s && recOk (RowW.records rowO.toRowW) s) myHook.obs myHook.val 5476 := fun w => by
  obtain ⟨s, e, a⟩ := Option.map_eq_some_iff.mp (left1 w)
  obtain ⟨s', e', b⟩ := Option.map_eq_some_iff.mp (left2 w)
  rw [e] at e'; cases e'
  rw [e]
  show some (openSeen _ _ _ _ _ s, chkAll (frag asK s.heap)) = _
  rw [a, b]; rfl
end Mine.Internal
namespace Mine.Internal
open PySem PySem.W PyProof.Rows
structure Cx extends Nm where
  prog : Program
  w : World
  K : Frag
  s₀ : Shared
  mg : Str → Option Value
  mb : Str → Option Value
  P : Prog
  fA : Nat → Addr
  cA : Nat → Addr
structure Cx.OK (c : Cx) : Prop where
  kin : c.K.In c.s₀.heap
  g : c.s₀.heap.Ns mainGlobals c.mg
  b : c.s₀.heap.Ns builtinsNs c.mb
  bt : ∀ x : Str, x ≠ "__name__" → c.mb x = bootBuiltins x
  lim : c.s₀.heap.NoLimit
  inj : ∀ x y, x < c.N → y < c.N → c.nm x = c.nm y → x = y
  nodebug : ∀ x, x < c.N → (c.nm x == ("__debug__" : Str)) = false
  nocd : ∀ x, x < c.N → (c.nm x == ("__classdict__" : Str)) = false
noncomputable abbrev listObj (items : List Value) (n : Nat) : Obj := { cls := .type "list", data := .seq items.toArray n }
noncomputable abbrev tupObj (items : List Value) (n : Nat) : Obj := { cls := .type "tuple", data := .seq items.toArray n }
mutual
noncomputable def Rep (h : Heap) (O : Addr → Prop) : V → Value → Prop
  | .none, v => v = .none
  | .bool b, v => v = .bool b
  | .int i, v => ∃ t, v = .int i t
  | .str i, v => i < 9 ∧ ∃ t, v = .str (strT i) t
  | .tup vs, v => ∃ a items n, v = .ref a ∧ ¬ O a ∧ h.get? a = some (tupObj items n) ∧ items.length ≤ 4096 ∧ RepL h O vs items
  | .lst vs, v => ∃ a items n, v = .ref a ∧ ¬ O a ∧ h.get? a = some (listObj items n) ∧ items.length ≤ 4096 ∧ RepL h O vs items
  | .rng a b st, v => ∃ r t u z, v = .ref r ∧ ¬ O r ∧ IsRange h r a b st t u z ∧ (-4096 ≤ a ∧ a ≤ 4096 ∧ -4096 ≤ b ∧ b ≤ 4096 ∧ (st = 1 ∨ st = -1))
noncomputable def RepL (h : Heap) (O : Addr → Prop) : List V → List Value → Prop
  | [], l => l = []
  | x :: xs, l => ∃ v r, l = v :: r ∧ Rep h O x v ∧ RepL h O xs r
end
structure Step (h : Heap) (O : Addr → Prop) (h' : Heap) (O' : Addr → Prop) : Prop where
  keep : ∀ b o, ¬ O b → h.get? b = some o → h'.get? b = some o
  grow : ∀ b, O' b → O b ∨ h.get? b = none
theorem Step.refl (h : Heap) (O : Addr → Prop) : Step h O h O := ⟨fun _ _ _ e => e, fun _ e => .inl e⟩
theorem Step.not {h h' : Heap} {O O' : Addr → Prop} (x : Step h O h' O') {b : Addr} {o : Obj} (e : h.get? b = some o) (n : ¬ O b) : ¬ O' b := fun q => by
  rcases x.grow b q with q | q
  · exact n q
  · rw [e] at q; injection q
theorem Step.trans {h h' h'' : Heap} {O O' O'' : Addr → Prop} (x : Step h O h' O') (y : Step h' O' h'' O'') : Step h O h'' O'' :=
  ⟨fun b o n e => y.keep b o (x.not e n) (x.keep b o n e), fun b q => by
    rcases y.grow b q with q | q
    · exact x.grow b q
    · induction e : h.get? b with
      | none => exact .inr rfl
      | some o =>
        by_cases n : O b
        · exact .inl n
        · rw [x.keep b o n e] at q; injection q⟩
@[elab_as_elim] theorem RepL.out {h : Heap} {O : Addr → Prop} {x : V} {xs : List V} {vs : List Value} {M : List Value → Prop} (r : RepL h O (x :: xs) vs) (k : ∀ v l, Rep h O x v → RepL h O xs l → M (v :: l)) : M vs :=
  (show ∃ v l, vs = v :: l ∧ Rep h O x v ∧ RepL h O xs l from r).elim fun v r => r.elim fun l r => Eq.symm r.1 ▸ k v l r.2.1 r.2.2
@[elab_as_elim] theorem RepL.out0 {h : Heap} {O : Addr → Prop} {vs : List Value} {M : List Value → Prop} (r : RepL h O [] vs) (k : M []) : M vs := Eq.symm (show vs = [] from r) ▸ k
theorem Rep.mono {h h' : Heap} {O O' : Addr → Prop} (k : ∀ b o, ¬ O b → h.get? b = some o → (∃ its n, o.data = .seq its n) ∨ (∃ vs, o.data = .fields vs) → h'.get? b = some o ∧ ¬ O' b) {x : V} : ∀ {v : Value}, Rep h O x v → Rep h' O' x v :=
  @V.rec (fun x => ∀ {v}, Rep h O x v → Rep h' O' x v) (fun xs => ∀ {vs}, RepL h O xs vs → RepL h' O' xs vs) (fun e => e) (fun _ _ e => e) (fun _ _ e => e) (fun _ _ e => e)
    (fun xs ih v r => hide fun G hG => (show ∃ a items n, v = .ref a ∧ ¬ O a ∧ h.get? a = some (tupObj items n) ∧ items.length ≤ 4096 ∧ RepL h O xs items from r).elim fun a r => r.elim fun items r => r.elim fun n r => hG ⟨a, items, n, r.1, (k a _ r.2.1 r.2.2.1 (.inl ⟨_, _, rfl⟩)).2, (k a _ r.2.1 r.2.2.1 (.inl ⟨_, _, rfl⟩)).1, r.2.2.2.1, ih r.2.2.2.2⟩)
    (fun xs ih v r => hide fun G hG => (show ∃ a items n, v = .ref a ∧ ¬ O a ∧ h.get? a = some (listObj items n) ∧ items.length ≤ 4096 ∧ RepL h O xs items from r).elim fun a r => r.elim fun items r => r.elim fun n r => hG ⟨a, items, n, r.1, (k a _ r.2.1 r.2.2.1 (.inl ⟨_, _, rfl⟩)).2, (k a _ r.2.1 r.2.2.1 (.inl ⟨_, _, rfl⟩)).1, r.2.2.2.1, ih r.2.2.2.2⟩)
    (fun a b st v r => by
      obtain ⟨r, t, u, z, e, nO, ho, hb⟩ := r
      exact ⟨r, t, u, z, e, (k r _ nO ho (.inr ⟨_, rfl⟩)).2, (k r _ nO ho (.inr ⟨_, rfl⟩)).1, hb⟩)
    (fun e => e) (fun x xs ihx ihl vs r => RepL.out r fun v l a b => ⟨v, l, rfl, ihx a, ihl b⟩) x
theorem RepL.mono {h h' : Heap} {O O' : Addr → Prop} (k : ∀ b o, ¬ O b → h.get? b = some o → (∃ its n, o.data = .seq its n) ∨ (∃ vs, o.data = .fields vs) → h'.get? b = some o ∧ ¬ O' b) {xs : List V} : ∀ {vs : List Value}, RepL h O xs vs → RepL h' O' xs vs := by
  induction xs with
  | nil => exact fun e => e
  | cons x xs ih => exact fun r => RepL.out r fun v l a b => ⟨v, l, rfl, a.mono k, ih b⟩
theorem Rep.step {h h' : Heap} {O O' : Addr → Prop} (s : Step h O h' O') {x : V} {v : Value} (r : Rep h O x v) : Rep h' O' x v :=
  r.mono fun b o n e _ => ⟨s.keep b o n e, s.not e n⟩
theorem RepL.step {h h' : Heap} {O O' : Addr → Prop} (s : Step h O h' O') {x : List V} {v : List Value} (r : RepL h O x v) : RepL h' O' x v :=
  r.mono fun b o n e _ => ⟨s.keep b o n e, s.not e n⟩
theorem Step.av {h h' : Heap} {O O' : Addr → Prop} (s : Step h O h' O') (X : Addr → Prop) : Step h (fun b => O b ∨ X b) h' (fun b => O' b ∨ X b) :=
  ⟨fun b o n e => s.keep b o (fun q => n (.inl q)) e, fun b q => by
    rcases q with q | q
    · rcases s.grow b q with q | q
      · exact .inl (.inl q)
      · exact .inr q
    · exact .inl (.inr q)⟩
theorem RepL.length {h : Heap} {O : Addr → Prop} {xs : List V} : ∀ {vs : List Value}, RepL h O xs vs → vs.length = xs.length := by
  induction xs with
  | nil => exact fun r => RepL.out0 r rfl
  | cons x xs ih => exact fun r => RepL.out r fun v l a b => congrArg (· + 1) (ih b)
theorem RepL.get {h : Heap} {O : Addr → Prop} {xs : List V} : ∀ {vs : List Value}, RepL h O xs vs → ∀ {i : Nat} {v : Value}, vs[i]? = some v → ∃ x, xs[i]? = some x ∧ Rep h O x v := by
  induction xs with
  | nil => exact fun r i v q => nS (RepL.out0 (M := fun vs => vs[i]? = some v → none = some v) r id q)
  | cons x xs ih =>
    intro vs r i v
    refine RepL.out r fun w l a b q => ?_
    rcases i with _ | i
    · exact ⟨x, rfl, Option.some.inj q ▸ a⟩
    · exact ih b q
theorem RepL.get' {h : Heap} {O : Addr → Prop} {xs : List V} : ∀ {vs : List Value}, RepL h O xs vs → ∀ {i : Nat} {x : V}, xs[i]? = some x → ∃ v, vs[i]? = some v ∧ Rep h O x v := by
  induction xs with
  | nil => exact fun r i v q => nS q
  | cons x xs ih =>
    intro vs r i y
    refine RepL.out r fun w l a b q => ?_
    rcases i with _ | i
    · exact ⟨w, rfl, Option.some.inj q ▸ a⟩
    · exact ih b q
theorem RepL.append {h : Heap} {O : Addr → Prop} {xs ys : List V} {ws : List Value} : ∀ {vs : List Value}, RepL h O xs vs → RepL h O ys ws → RepL h O (xs ++ ys) (vs ++ ws) := by
  induction xs with
  | nil => exact fun r q => RepL.out0 r q
  | cons x xs ih => exact fun r q => RepL.out r fun v l a b => ⟨v, _, rfl, a, ih b q⟩
theorem RepL.snoc {h : Heap} {O : Addr → Prop} {xs : List V} {x : V} {vs : List Value} {v : Value} (a : RepL h O xs vs) (b : Rep h O x v) : RepL h O (xs ++ [x]) (vs ++ [v]) :=
  a.append ⟨v, [], rfl, b, rfl⟩
theorem RepL.take {h : Heap} {O : Addr → Prop} {xs : List V} : ∀ {vs : List Value} (n : Nat), RepL h O xs vs → RepL h O (xs.take n) (vs.take n) := by
  induction xs with
  | nil => exact fun n r => RepL.out0 r (by rcases n with _ | n <;> exact @rfl (List Value) [])
  | cons x xs ih =>
    intro vs n r
    rcases n with _ | n
    · exact @rfl (List Value) []
    · exact RepL.out r fun v l a b => ⟨v, _, rfl, a, ih n b⟩
theorem RepL.drop {h : Heap} {O : Addr → Prop} {xs : List V} : ∀ {vs : List Value} (n : Nat), RepL h O xs vs → RepL h O (xs.drop n) (vs.drop n) := by
  induction xs with
  | nil => exact fun n r => RepL.out0 r (by rcases n with _ | n <;> exact @rfl (List Value) [])
  | cons x xs ih =>
    intro vs n r
    rcases n with _ | n
    · exact r
    · exact RepL.out r fun v l a b => ih n b
theorem RepL.set {h : Heap} {O : Addr → Prop} {xs : List V} {x : V} {v : Value} : ∀ {vs : List Value} (n : Nat), RepL h O xs vs → Rep h O x v → RepL h O (xs.set n x) (vs.set n v) := by
  induction xs with
  | nil => exact fun n r q => RepL.out0 r (@rfl (List Value) [])
  | cons y xs ih =>
    intro vs n r q
    refine RepL.out r fun w l a b => ?_
    rcases n with _ | n
    · exact ⟨v, _, rfl, q, b⟩
    · exact ⟨w, _, rfl, a, ih n b q⟩
abbrev AdT := List (Addr × Addr)
noncomputable def RepRV (h : Heap) (O : Addr → Prop) (ad : AdT) : RV → Value → Prop
  | .val x, v => Rep h O x v
  | .ref i, v => ∃ a w, ad[i]? = some (a, w) ∧ v = .ref a
noncomputable def RepRVs (h : Heap) (O : Addr → Prop) (ad : AdT) : List RV → List Value → Prop
  | [], l => l = []
  | x :: xs, l => ∃ v r, l = v :: r ∧ RepRV h O ad x v ∧ RepRVs h O ad xs r
abbrev U (O F : Addr → Prop) : Addr → Prop := fun b => O b ∨ F b
noncomputable def FieldsRel (c : Cx) (h : Heap) (O X : Addr → Prop) (ad : AdT) (fs : List (Nat × RV)) (es : List DictEntry) : Prop :=
  es.length ≤ fs.length ∧ (∀ f rv, lookupL f fs = some rv → f < c.N ∧ ∃ v, getL (c.nm f) es = some (some v) ∧ RepRV h (U O X) ad rv v) ∧
  ∀ x : Str, (∀ f rv, lookupL f fs = some rv → c.nm f ≠ x) → getL x es = some none
noncomputable def DictFact (a : Addr) (n : Nat) (x : Obj) : Prop := ∀ h' : Heap, h'.get? a = some x → (∃ f, h'.IntMap a f) ∧ h'.DictLe a n
noncomputable def ObjRel (c : Cx) (h : Heap) (O X : Addr → Prop) (ad : AdT) : HObj → Addr → Addr → Prop
  | .mlst xs, a, w => w = a ∧ O a ∧ xs.length ≤ 4096 ∧ ∃ items n, h.get? a = some (listObj items n) ∧ RepL h (U O X) xs items
  | .flst xs, a, w => w = a ∧ Rep h (U O X) (.lst xs) (.ref a)
  | .inst k fs, a, w => k < 3 ∧ O w ∧ ¬ O a ∧ h.get? a = some (instObj (c.cA k) w) ∧ ∃ es n, h.get? w = some (dictOf es n) ∧ FieldsRel c h O X ad fs es
  | .idict n, a, w => w = a ∧ O a ∧ ∃ x, h.get? a = some x ∧ DictFact a n x
structure HRel (c : Cx) (h : Heap) (O X : Addr → Prop) (ad : AdT) (hp : Hp) : Prop where
  len : ad.length = hp.length
  nodup : (ad.map (·.2)).Nodup
  obj : ∀ (i : Nat) (o : HObj) (a w : Addr), hp[i]? = some o → ad[i]? = some (a, w) → ObjRel c h O X ad o a w
structure SR (c : Cx) (s : Shared) (O X : Addr → Prop) (ad : AdT) (hp : Hp) : Prop where
  same : ∃ h tk, s = { c.s₀ with heap := h, toks := tk }
  keep : ∀ b o, c.s₀.heap.get? b = some o → s.heap.get? b = some o
  own : ∀ b, O b → c.s₀.heap.get? b = none
  oin : ∀ b, O b → ∃ o, s.heap.get? b = some o
  xin : ∀ b, X b → ¬ O b ∧ ∃ o, s.heap.get? b = some o
  hr : HRel c s.heap O X ad hp
noncomputable def Prefix (ad ad' : AdT) : Prop := ∀ (i : Nat) (p : Addr × Addr), ad[i]? = some p → ad'[i]? = some p
theorem Prefix.refl (ad : AdT) : Prefix ad ad := fun _ _ e => e
theorem Prefix.trans {a b d : AdT} (x : Prefix a b) (y : Prefix b d) : Prefix a d := fun i p e => y i p (x i p e)
theorem Prefix.snoc (ad : AdT) (x : Addr × Addr) : Prefix ad (ad ++ [x]) := fun i p e => by
  have : i < ad.length := by
    by_cases h : i < ad.length
    · exact h
    · rw [List.getElem?_eq_none (by lia)] at e; exact nS e
  rw [List.getElem?_append_left this]; exact e
theorem RepRV.mono {h h' : Heap} {O O' : Addr → Prop} {ad ad' : AdT} (k : ∀ b o, ¬ O b → h.get? b = some o → (∃ its n, o.data = .seq its n) ∨ (∃ vs, o.data = .fields vs) → h'.get? b = some o ∧ ¬ O' b)
    (p : Prefix ad ad') {x : RV} {v : Value} : RepRV h O ad x v → RepRV h' O' ad' x v := by
  rcases x with _ | _
  · exact Rep.mono k
  · exact fun r => r.elim fun a r => r.elim fun w r => ⟨a, w, p _ _ r.1, r.2⟩
theorem RepRV.step {h h' : Heap} {O O' : Addr → Prop} {ad ad' : AdT} (s : Step h O h' O') (p : Prefix ad ad') {x : RV} {v : Value} (r : RepRV h O ad x v) : RepRV h' O' ad' x v :=
  r.mono (fun b o n e _ => ⟨s.keep b o n e, s.not e n⟩) p
@[elab_as_elim] theorem RepRVs.out {h : Heap} {O : Addr → Prop} {ad : AdT} {x : RV} {xs : List RV} {vs : List Value} {M : List Value → Prop} (r : RepRVs h O ad (x :: xs) vs) (k : ∀ v l, RepRV h O ad x v → RepRVs h O ad xs l → M (v :: l)) : M vs :=
  (show ∃ v l, vs = v :: l ∧ RepRV h O ad x v ∧ RepRVs h O ad xs l from r).elim fun v r => r.elim fun l r => Eq.symm r.1 ▸ k v l r.2.1 r.2.2
theorem RepRVs.mono {h h' : Heap} {O O' : Addr → Prop} {ad ad' : AdT} (k : ∀ b o, ¬ O b → h.get? b = some o → (∃ its n, o.data = .seq its n) ∨ (∃ vs, o.data = .fields vs) → h'.get? b = some o ∧ ¬ O' b)
    (p : Prefix ad ad') {x : List RV} : ∀ {v : List Value}, RepRVs h O ad x v → RepRVs h' O' ad' x v := by
  induction x with
  | nil => exact fun e => e
  | cons x xs ih => exact fun r => r.elim fun v r => r.elim fun l r => ⟨v, l, r.1, r.2.1.mono k p, ih r.2.2⟩
theorem RepRVs.step {h h' : Heap} {O O' : Addr → Prop} {ad ad' : AdT} (s : Step h O h' O') (p : Prefix ad ad') {x : List RV} {v : List Value} (r : RepRVs h O ad x v) : RepRVs h' O' ad' x v :=
  r.mono (fun b o n e _ => ⟨s.keep b o n e, s.not e n⟩) p
theorem RepRVs.length {h : Heap} {O : Addr → Prop} {ad : AdT} {xs : List RV} : ∀ {vs : List Value}, RepRVs h O ad xs vs → vs.length = xs.length := by
  induction xs with
  | nil => exact fun e => congrArg List.length (show _ = [] from e)
  | cons x xs ih => exact fun r => r.elim fun v r => r.elim fun l r => (congrArg List.length r.1).trans (congrArg (· + 1) (ih r.2.2))
theorem ObjRel.turn {c : Cx} {h h' : Heap} {O O' X X' : Addr → Prop} {ad ad' : AdT} {o : HObj} {a w : Addr}
    (rep : ∀ b x, ¬ U O X b → h.get? b = some x → (∃ its n, x.data = .seq its n) ∨ (∃ vs, x.data = .fields vs) → h'.get? b = some x ∧ ¬ U O' X' b) (kw : O w → ∀ x, h.get? w = some x → h'.get? w = some x) (ow : O w → O' w)
    (ka : ∀ q, ¬ O a → h.get? a = some (instObj (c.cA q) w) → h'.get? a = some (instObj (c.cA q) w) ∧ ¬ O' a) (p : Prefix ad ad') (r : ObjRel c h O X ad o a w) : ObjRel c h' O' X' ad' o a w := by
  refine hide fun G hG => ?_
  rcases o with xs | xs | ⟨q, fs⟩ | n
  · obtain ⟨e, hO, hl, items, n, hg, hr⟩ := r
    exact hG ⟨e, e ▸ ow (e ▸ hO), hl, items, n, e ▸ kw (e ▸ hO) _ (e ▸ hg), hr.mono rep⟩
  · exact hG ⟨r.1, Rep.mono (x := .lst xs) rep r.2⟩
  · obtain ⟨h03, hw, ha, hg, es, n, hd, h1, h2, h3⟩ := r
    have z := ka q ha hg
    exact hG ⟨h03, ow hw, z.2, z.1, es, n, kw hw _ hd, h1, fun f rv e => ⟨(h2 f rv e).1, (h2 f rv e).2.imp fun v q => ⟨q.1, q.2.mono rep p⟩⟩, h3⟩
  · obtain ⟨e, hO, x, hx, hr⟩ := r
    exact hG ⟨e, e ▸ ow (e ▸ hO), x, e ▸ kw (e ▸ hO) _ (e ▸ hx), hr⟩
theorem ObjRel.keep {c : Cx} {h h' : Heap} {O O' X : Addr → Prop} {ad ad' : AdT} {o : HObj} {a w : Addr}
    (kO : ∀ b x, ¬ O b → h.get? b = some x → h'.get? b = some x ∧ ¬ O' b) (kw : ∀ x, h.get? w = some x → h'.get? w = some x) (ow : O w → O' w) (p : Prefix ad ad')
    (r : ObjRel c h O X ad o a w) : ObjRel c h' O' X ad' o a w :=
  r.turn (fun b x n e _ => ⟨(kO b x (fun z => n (.inl z)) e).1, fun z => z.elim (kO b x (fun z => n (.inl z)) e).2 fun z => n (.inr z)⟩) (fun _ => kw) ow (fun _ ha hg => kO _ _ ha hg) p
theorem ObjRel.ww {c : Cx} {h : Heap} {O X : Addr → Prop} {ad : AdT} {o : HObj} {a w : Addr} (r : ObjRel c h O X ad o a w) : O w ∨ ¬ U O X w := by
  rcases o with xs | xs | ⟨q, fs⟩ | n
  · exact .inl (r.1 ▸ r.2.1)
  · exact .inr (r.2.elim fun a' q => q.elim fun its q => q.elim fun n q => r.1 ▸ Value.ref.inj q.1 ▸ q.2.1)
  · exact .inl r.2.1
  · exact .inl (r.1 ▸ r.2.1)
theorem ObjRel.w_in {c : Cx} {h : Heap} {O X : Addr → Prop} {ad : AdT} {o : HObj} {a w : Addr} (r : ObjRel c h O X ad o a w) : ∃ x, h.get? w = some x := by
  rcases o with xs | xs | ⟨q, fs⟩ | n
  · exact r.2.2.2.elim fun its q => q.elim fun n q => ⟨_, r.1 ▸ q.1⟩
  · exact r.2.elim fun a' q => q.elim fun its q => q.elim fun n q => ⟨_, r.1 ▸ Value.ref.inj q.1 ▸ q.2.2.1⟩
  · exact r.2.2.2.2.elim fun es q => q.elim fun n q => ⟨_, q.1⟩
  · exact r.2.2.elim fun x q => ⟨x, r.1 ▸ q.1⟩
theorem HRel.at {c : Cx} {h : Heap} {O X : Addr → Prop} {ad : AdT} {hp : Hp} (H : HRel c h O X ad hp) {i : Nat} {o : HObj} (e : hp[i]? = some o) : ∃ a w, ad[i]? = some (a, w) ∧ ObjRel c h O X ad o a w := by
  have hi : i < hp.length := by
    by_cases q : i < hp.length
    · exact q
    · rw [List.getElem?_eq_none (by lia)] at e; exact nS e
  have hj : i < ad.length := by rw [H.len]; exact hi
  refine ⟨(ad[i]).1, (ad[i]).2, by simp [List.getElem?_eq_getElem hj], H.obj i o _ _ e (by simp [List.getElem?_eq_getElem hj])⟩
theorem HRel.apart {c : Cx} {h : Heap} {O X : Addr → Prop} {ad : AdT} {hp : Hp} (H : HRel c h O X ad hp) {i j : Nat} {a w a' w' : Addr} (ei : ad[i]? = some (a, w)) (ej : ad[j]? = some (a', w')) (n : i ≠ j) : w ≠ w' := by
  intro q
  subst q
  have hi : (ad.map (·.2))[i]? = some w := by simp [ei]
  have hj : (ad.map (·.2))[j]? = some w := by simp [ej]
  obtain ⟨hil, e1⟩ := List.getElem?_eq_some_iff.mp hi
  obtain ⟨hjl, e2⟩ := List.getElem?_eq_some_iff.mp hj
  have pw := List.pairwise_iff_getElem.mp (show (ad.map (·.2)).Pairwise (· ≠ ·) from H.nodup)
  rcases Nat.lt_or_gt_of_ne n with l | l
  · exact pw i j hil hjl l (by rw [e1, e2])
  · exact pw j i hjl hil l (by rw [e1, e2])
theorem mem_of_lookupL {f : Nat} {v : RV} {fs : List (Nat × RV)} : lookupL f fs = some v → (f, v) ∈ fs := by
  induction fs with
  | nil => exact nS
  | cons p r ih =>
    intro e
    by_cases hy : f = p.1
    · obtain rfl := Option.some.inj ((show lookupL f (p :: r) = some p.2 from if_pos hy).symm.trans e)
      exact hy ▸ .head _
    · exact .tail _ (ih ((show lookupL f (p :: r) = lookupL f r from if_neg hy).symm.trans e))
theorem HRel.set {c : Cx} {h h' : Heap} {O X : Addr → Prop} {ad : AdT} {hp : Hp} (H : HRel c h O X ad hp) {i : Nat} {a w : Addr} {o : HObj} (ei : ad[i]? = some (a, w)) (hO : O w)
    (k : ∀ b x, b ≠ w → h.get? b = some x → h'.get? b = some x) (r : ObjRel c h' O X ad o a w) : HRel c h' O X ad (hp.set i o) := by
  refine ⟨by rw [List.length_set]; exact H.len, H.nodup, fun j p a' w' ej ea => ?_⟩
  by_cases q : j = i
  · subst q
    rw [ei] at ea; obtain ⟨rfl, rfl⟩ := Prod.mk.inj (Option.some.inj ea)
    rw [List.getElem?_set] at ej
    simp only [if_true] at ej
    split at ej
    · obtain rfl := Option.some.inj ej; exact r
    · exact nS ej
  · rw [List.getElem?_set_ne (Ne.symm q)] at ej
    have ne := H.apart ea ei q
    exact (H.obj j p a' w' ej ea).keep (fun b x n e => ⟨k b x (fun z => n (z ▸ hO)) e, n⟩) (fun x e => k _ x ne e) id (.refl _)
theorem HRel.freeze {c : Cx} {h : Heap} {O X : Addr → Prop} {ad : AdT} {hp : Hp} (H : HRel c h O X ad hp) (xo : ∀ b, X b → ¬ O b) {i : Nat} {a w : Addr} {xs : List V} (ei : ad[i]? = some (a, w)) (eh : hp[i]? = some (.mlst xs)) :
    HRel c h (fun b => O b ∧ b ≠ a) X ad (hp.set i (.flst xs)) ∧ Rep h (U (fun b => O b ∧ b ≠ a) X) (.lst xs) (.ref a) := by
  obtain ⟨rfl, hO, hl, items, n, hg, hr⟩ := H.obj i _ _ _ eh ei
  have hk : ∀ b x, ¬ U O X b → h.get? b = some x → (∃ its n, x.data = .seq its n) ∨ (∃ vs, x.data = .fields vs) → h.get? b = some x ∧ ¬ U (fun b => O b ∧ b ≠ w) X b := fun b x nb e _ => ⟨e, fun z => z.elim (fun z => nb (.inl z.1)) fun z => nb (.inr z)⟩
  have R : Rep h (U (fun b => O b ∧ b ≠ w) X) (.lst xs) (.ref w) := ⟨w, items, n, rfl, fun z => z.elim (fun z => z.2 rfl) fun z => xo w z hO, hg, by rw [hr.length]; exact hl, hr.mono hk⟩
  refine ⟨⟨by rw [List.length_set]; exact H.len, H.nodup, fun j p a' w' ej ea => ?_⟩, R⟩
  by_cases q : j = i
  · subst q
    rw [ei] at ea; obtain ⟨rfl, rfl⟩ := Prod.mk.inj (Option.some.inj ea)
    rw [List.getElem?_set] at ej
    simp only [if_true] at ej
    split at ej
    · obtain rfl := Option.some.inj ej; exact ⟨rfl, R⟩
    · exact nS ej
  · rw [List.getElem?_set_ne (Ne.symm q)] at ej
    have ne := H.apart ea ei q
    exact (H.obj j p a' w' ej ea).keep (fun b x nb e => ⟨e, fun z => nb z.1⟩) (fun x e => e) (fun z => ⟨z, ne⟩) (.refl _)
theorem HRel.push {c : Cx} {h h' : Heap} {O O' X : Addr → Prop} {ad : AdT} {hp : Hp} (H : HRel c h O X ad hp) {a w : Addr} {o : HObj} (k : ∀ b x, h.get? b = some x → h'.get? b = some x)
    (gO : ∀ b, O' b → O b ∨ h.get? b = none) (sO : ∀ b, O b → O' b) (hw : h.get? w = none) (r : ObjRel c h' O' X (ad ++ [(a, w)]) o a w) : HRel c h' O' X (ad ++ [(a, w)]) (hp ++ [o]) := by
  refine ⟨by simp [H.len], ?_, fun j p a' w' ej ea => ?_⟩
  · rw [List.map_append, List.nodup_append]
    refine ⟨H.nodup, by simp, fun x hx y hy => ?_⟩
    simp at hy
    subst hy
    obtain ⟨⟨a', w'⟩, hm, rfl⟩ := List.mem_map.mp hx
    obtain ⟨j, hj, e⟩ := List.getElem_of_mem hm
    have hj' : j < hp.length := by rw [← H.len]; exact hj
    obtain ⟨z, hz⟩ := (H.obj j hp[j] a' w' (by simp [List.getElem?_eq_getElem hj']) (by rw [List.getElem?_eq_getElem hj, e])).w_in
    intro q
    dsimp only at q
    rw [q, hw] at hz; injection hz
  · have hlen : ad.length = hp.length := H.len
    by_cases q : j < hp.length
    · rw [List.getElem?_append_left q] at ej
      rw [List.getElem?_append_left (by rw [hlen]; exact q)] at ea
      have R := H.obj j p a' w' ej ea
      exact R.keep (fun b x nb e => ⟨k b x e, fun z => by rcases gO b z with z | z; exact nb z; rw [e] at z; injection z⟩) (fun x e => k _ x e) (sO _) (.snoc _ _)
    · have hj : j = hp.length := by
        have : j < (hp ++ [o]).length := (List.getElem?_eq_some_iff.mp ej).1
        simp at this; lia
      subst hj
      simp at ej
      rw [← hlen] at ea
      simp at ea
      obtain ⟨rfl, rfl⟩ := ea
      subst ej
      exact r
theorem HRel.stay {c : Cx} {h h' : Heap} {O X : Addr → Prop} {ad : AdT} {hp : Hp} (H : HRel c h O X ad hp) (k : ∀ b x, h.get? b = some x → h'.get? b = some x) : HRel c h' O X ad hp :=
  ⟨H.len, H.nodup, fun i o a w ei ea => (H.obj i o a w ei ea).keep (fun b x n e => ⟨k b x e, n⟩) (fun x e => k _ x e) id (.refl _)⟩
theorem HRel.take {c : Cx} {h : Heap} {O X : Addr → Prop} {ad : AdT} {hp : Hp} (H : HRel c h O X ad hp) (n : Nat) (u : (hp.take n).all (objUnder n) = true) : HRel c h O X (ad.take n) (hp.take n) := by
  refine ⟨by simp [H.len], ?_, fun j p a w ej ea => ?_⟩
  · rw [List.map_take]; exact H.nodup.sublist (List.take_sublist _ _)
  · have hj : j < n := by
      have := (List.getElem?_eq_some_iff.mp ej).1
      simp at this; lia
    have up : objUnder n p = true := List.all_eq_true.mp u p (List.mem_of_getElem? ej)
    rw [List.getElem?_take_of_lt hj] at ej ea
    have R := H.obj j p a w ej ea
    induction p with
    | mlst xs => exact R
    | flst xs => exact R
    | idict n => exact R
    | inst q fs =>
      obtain ⟨h03, hw, ha, hg, es, m, hd, h1, h2, h3⟩ := R
      refine ⟨h03, hw, ha, hg, es, m, hd, h1, fun f rv e => ?_, h3⟩
      obtain ⟨l, v, g, r⟩ := h2 f rv e
      refine ⟨l, v, g, ?_⟩
      induction rv with
      | val x => exact r
      | ref i =>
        obtain ⟨a', w', e', q'⟩ := r
        refine ⟨a', w', ?_, q'⟩
        have hi : i < n := by
          have := List.all_eq_true.mp (show fs.all (fun p => refsUnder n p.2) = true from up) _ (mem_of_lookupL e)
          simpa [refsUnder] using this
        rw [List.getElem?_take_of_lt hi]; exact e'
theorem SR.xo {c : Cx} {s : Shared} {O X : Addr → Prop} {ad : AdT} {hp : Hp} (H : SR c s O X ad hp) : ∀ b, X b → ¬ O b := fun b x => (H.xin b x).1
theorem SR.stay {c : Cx} {s : Shared} {O X : Addr → Prop} {ad : AdT} {hp : Hp} (H : SR c s O X ad hp) {h' : Heap} {tk : Nat} (k : ∀ b x, s.heap.get? b = some x → h'.get? b = some x) : SR c { s with heap := h', toks := tk } O X ad hp := by
  obtain ⟨⟨h, t, rfl⟩, hk, ho, hi, hx, hr⟩ := H
  exact ⟨⟨h', tk, rfl⟩, fun b o q => k b o (hk b o q), ho, fun b q => by obtain ⟨o, e⟩ := hi b q; exact ⟨o, k _ _ e⟩, fun b q => by obtain ⟨n, o, e⟩ := hx b q; exact ⟨n, o, k _ _ e⟩, hr.stay k⟩
theorem Step.stay {h h' : Heap} {O : Addr → Prop} (k : ∀ b x, h.get? b = some x → h'.get? b = some x) : Step h O h' O := ⟨fun b o _ e => k b o e, fun b q => .inl q⟩
theorem SR.tok {c : Cx} {s : Shared} {O X : Addr → Prop} {ad : AdT} {hp : Hp} (H : SR c s O X ad hp) (tk : Nat) : SR c { s with toks := tk } O X ad hp := H.stay (h' := s.heap) fun _ _ e => e
end Mine.Internal
namespace Mine.Internal
open PySem PySem.W PyProof.Rows
structure EnvOK (c : Cx) (h : Heap) (O F : Addr → Prop) (sc : Sc) (env : Env) : Prop where
  kind : env.scope.kind = .function
  glob : env.globals = mainGlobals
  blt : env.builtins = builtinsNs
  kinds : ∀ n k, sc.lookup n = some k → env.kindOf n = some k ∨ (k = .free ∧ env.kindOf n = some .cell)
  ns : ∃ m, h.Ns env.locals m
  cells : ∀ n, env.kindOf n = some .cell ∨ env.kindOf n = some .free → ∃ a v, env.cells.lookup n = some a ∧ h.IsCell a v ∧ ¬ O a
  inj : ∀ n n' a, env.cells.lookup n = some a → env.cells.lookup n' = some a → n = n'
  fL : F env.locals
  fcell : ∀ n a, sc.lookup n = some .cell → env.cells.lookup n = some a → F a
  fO : ∀ b, F b → ¬ O b
  fdata : ∀ b, F b → ∃ o, h.get? b = some o ∧ ((∃ es n, o.data = .dict es n) ∨ (∃ v, o.data = .cell v))
  fnew : ∀ b, F b → c.s₀.heap.get? b = none
noncomputable def HoldsVar (h : Heap) (env : Env) (n : Str) (v : Value) : Prop :=
  (env.kindOf n = some .local ∧ ∃ m, h.Ns env.locals m ∧ m n = some v) ∨
  ((env.kindOf n = some .cell ∨ env.kindOf n = some .free) ∧ ∃ a, env.cells.lookup n = some a ∧ h.IsCell a (some v))
noncomputable def LocRel (c : Cx) (h : Heap) (O X : Addr → Prop) (ad : AdT) (env : Env) (loc : Loc) : Prop :=
  ∀ x rv, lookupL x loc = some rv → x < c.N ∧ ∃ v, RepRV h (U O X) ad rv v ∧ HoldsVar h env (c.nm x) v
theorem kind_ne {x : Obj} (d : (∃ es n, x.data = .dict es n) ∨ ∃ v, x.data = .cell v) (d' : (∃ its n, x.data = .seq its n) ∨ ∃ vs, x.data = .fields vs) : False := by
  have a : x.data.ctorIdx = 3 ∨ x.data.ctorIdx = 6 := d.imp (fun q => q.elim fun _ q => q.elim fun _ q => congrArg Data.ctorIdx q) fun q => q.elim fun _ q => congrArg Data.ctorIdx q
  have b : x.data.ctorIdx = 2 ∨ x.data.ctorIdx = 9 := d'.imp (fun q => q.elim fun _ q => q.elim fun _ q => congrArg Data.ctorIdx q) fun q => q.elim fun _ q => congrArg Data.ctorIdx q
  rcases a with a | a <;> rcases b with b | b <;> exact absurd (a.symm.trans b) (by decide)
theorem ns_k {h h' : Heap} {L : Addr} {m : Str → Option Value} (k : ∀ o, (∃ es n, o.data = .dict es n) ∨ (∃ v, o.data = .cell v) → h.get? L = some o → h'.get? L = some o) (r : h.Ns L m) : h'.Ns L m :=
  r.elim fun o r => r.elim fun es r => r.elim fun ep r => ⟨o, es, ep, k o (.inl ⟨_, _, r.2.1⟩) r.1, r.2⟩
theorem cell_k {h h' : Heap} {L : Addr} {v : Option Value} (k : ∀ o, (∃ es n, o.data = .dict es n) ∨ (∃ v, o.data = .cell v) → h.get? L = some o → h'.get? L = some o) (r : h.IsCell L v) : h'.IsCell L v :=
  r.elim fun o r => ⟨o, k o (.inr ⟨_, r.2⟩) r.1, r.2⟩
theorem EnvOK.turn {c : Cx} {h h' : Heap} {O O' F : Addr → Prop} {sc : Sc} {env : Env} (e : EnvOK c h O F sc env) (kns : ∃ m, h'.Ns env.locals m) (kc : ∀ a v, h.IsCell a v → ¬ O a → ∃ v', h'.IsCell a v' ∧ ¬ O' a) (fO : ∀ b, F b → ¬ O' b)
    (fd : ∀ b, F b → ∃ o, h'.get? b = some o ∧ ((∃ es n, o.data = .dict es n) ∨ (∃ v, o.data = .cell v))) : EnvOK c h' O' F sc env :=
  ⟨e.kind, e.glob, e.blt, e.kinds, kns, fun n k => (e.cells n k).imp fun a q => q.elim fun v q => (kc a v q.2.1 q.2.2).imp fun v' z => ⟨q.1, z⟩, e.inj, e.fL, e.fcell, fO, fd, e.fnew⟩
theorem HoldsVar.turn {h h' : Heap} {env : Env} {n : Str} {v : Value} (kns : ∀ m, h.Ns env.locals m → h'.Ns env.locals m) (kc : ∀ a, env.kindOf n = some .cell ∨ env.kindOf n = some .free → env.cells.lookup n = some a → h.IsCell a (some v) → h'.IsCell a (some v)) (x : HoldsVar h env n v) : HoldsVar h' env n v :=
  x.imp (fun q => ⟨q.1, q.2.imp fun m q => ⟨kns m q.1, q.2⟩⟩) fun q => ⟨q.1, q.2.imp fun a z => ⟨z.1, kc a q.1 z.1 z.2⟩⟩
theorem LocRel.turn {c : Cx} {h h' : Heap} {O O' X X' : Addr → Prop} {env : Env} {ad ad' : AdT} {loc : Loc} (l : LocRel c h O X ad env loc) (rr : ∀ {rv v}, RepRV h (U O X) ad rv v → RepRV h' (U O' X') ad' rv v) (hv : ∀ {n v}, HoldsVar h env n v → HoldsVar h' env n v) : LocRel c h' O' X' ad' env loc :=
  fun y rv q => (l y rv q).imp id (Exists.imp fun v q => ⟨rr q.1, hv q.2⟩)
theorem EnvOK.step {c : Cx} {h h' : Heap} {O O' F : Addr → Prop} {sc : Sc} {env : Env} (e : EnvOK c h O F sc env) (s : Step h O h' O') : EnvOK c h' O' F sc env :=
  e.turn (e.ns.imp fun m => ns_k fun o _ => s.keep _ o (e.fO _ e.fL)) (fun a v q nO => ⟨v, cell_k (fun o _ => s.keep _ o nO) q, q.elim fun o q => s.not q.1 nO⟩) (fun b f => (e.fdata b f).elim fun o q => s.not q.1 (e.fO b f))
    fun b f => (e.fdata b f).imp fun o q => ⟨s.keep _ _ (e.fO b f) q.1, q.2⟩
theorem EnvOK.cellO {c : Cx} {h : Heap} {O F : Addr → Prop} {sc : Sc} {env : Env} (e : EnvOK c h O F sc env) {n : Str} {a : Addr} (k : env.kindOf n = some .cell ∨ env.kindOf n = some .free) (hl : env.cells.lookup n = some a) : ¬ O a :=
  (e.cells n k).elim fun a' q => q.elim fun v q => Option.some.inj (q.1.symm.trans hl) ▸ q.2.2
theorem HoldsVar.step {c : Cx} {h h' : Heap} {O O' F : Addr → Prop} {sc : Sc} {env : Env} (e : EnvOK c h O F sc env) (s : Step h O h' O') {n : Str} {v : Value} (x : HoldsVar h env n v) : HoldsVar h' env n v :=
  x.turn (fun m => ns_k fun o _ => s.keep _ o (e.fO _ e.fL)) fun a k hl => cell_k fun o _ => s.keep _ o (e.cellO k hl)
theorem LocRel.step {c : Cx} {h h' : Heap} {O O' X F : Addr → Prop} {sc : Sc} {env : Env} {ad ad' : AdT} {loc : Loc} (e : EnvOK c h O F sc env) (s : Step h O h' O') (p : Prefix ad ad')
    (x : LocRel c h O X ad env loc) : LocRel c h' O' X ad' env loc := x.turn (fun r => r.step (s.av X) p) fun k => k.step e s
theorem lookupL_setL (x y : Nat) (v : RV) (loc : Loc) : lookupL y (setL x v loc) = if y = x then some v else lookupL y loc := by
  induction loc with
  | nil => rfl
  | cons p r ih =>
    by_cases h : x = p.1
    · rw [show setL x v (p :: r) = (x, v) :: r from if_pos h]
      show (if y = x then some v else lookupL y r) = if y = x then some v else (if y = p.1 then some p.2 else lookupL y r)
      by_cases q : y = x
      · rw [if_pos q, if_pos q]
      · rw [if_neg q, if_neg q, if_neg (fun e => q (e.trans h.symm))]
    · rw [show setL x v (p :: r) = p :: setL x v r from if_neg h]
      show (if y = p.1 then some p.2 else lookupL y (setL x v r)) = if y = x then some v else (if y = p.1 then some p.2 else lookupL y r)
      by_cases q : y = p.1
      · rw [if_pos q, if_pos q, if_neg (fun e => h (e.symm.trans q))]
      · rw [if_neg q, if_neg q]; exact ih
structure FTurn (h h' : Heap) (O F : Addr → Prop) (f : Addr) : Prop where
  there : ∃ o, h'.get? f = some o
  only : ∀ b o, b ≠ f → h.get? b = some o → h'.get? b = some o
  isF : F f
theorem FTurn.noO {c : Cx} {h h' : Heap} {O F : Addr → Prop} {f : Addr} {sc : Sc} {env : Env} (t : FTurn h h' O F f) (e : EnvOK c h O F sc env) {b : Addr} (q : O b) : b ≠ f := fun z => e.fO f t.isF (z ▸ q)
theorem FTurn.rep {c : Cx} {h h' : Heap} {O F Y : Addr → Prop} {f : Addr} {sc : Sc} {env : Env} (t : FTurn h h' O F f) (e : EnvOK c h O F sc env) :
    ∀ b o, ¬ Y b → h.get? b = some o → (∃ its n, o.data = .seq its n) ∨ (∃ vs, o.data = .fields vs) → h'.get? b = some o ∧ ¬ Y b := fun b o n g d => by
  refine ⟨t.only b o (fun z => ?_) g, n⟩
  obtain ⟨o', g', d'⟩ := e.fdata f t.isF
  exact kind_ne (Option.some.inj (g'.symm.trans (z ▸ g)) ▸ d') d
theorem FTurn.hrel {c : Cx} {h h' : Heap} {O X F : Addr → Prop} {f : Addr} {sc : Sc} {env : Env} {ad : AdT} {hp : Hp} (t : FTurn h h' O F f) (e : EnvOK c h O F sc env) (H : HRel c h O X ad hp) : HRel c h' O X ad hp := by
  refine ⟨H.len, H.nodup, fun i o a w ei ea => (H.obj i o a w ei ea).turn (t.rep (Y := U O X) e) (fun hw x g => t.only _ _ (t.noO e hw) g) id (fun q ha hg => ⟨t.only _ _ (fun z => ?_) hg, ha⟩) (.refl _)⟩
  obtain ⟨o', g', d'⟩ := e.fdata f t.isF
  rw [z, g'] at hg; obtain rfl := Option.some.inj hg
  rcases d' with ⟨_, _, d'⟩ | ⟨_, d'⟩ <;> injection d'
theorem FTurn.env {c : Cx} {h h' : Heap} {O F : Addr → Prop} {f : Addr} {sc : Sc} {env : Env} (t : FTurn h h' O F f) (e : EnvOK c h O F sc env)
    (hd : (f = env.locals ∧ ∃ m, h'.Ns env.locals m) ∨ (f ≠ env.locals ∧ ∃ v, h'.IsCell f v)) : EnvOK c h' O F sc env := by
  refine e.turn (hd.elim (·.2) fun q => e.ns.imp fun m => ns_k fun o _ => t.only _ o (Ne.symm q.1)) (fun a v hc nO => ?_) e.fO fun b fb => ?_
  · by_cases z : a = f
    · refine hd.elim (fun q => ?_) fun q => q.2.imp fun v' q => ⟨z ▸ q, nO⟩
      obtain ⟨o, ho, hd⟩ := hc
      obtain ⟨m, o', es, ep, ho', hd', _⟩ := e.ns
      rw [z, q.1, ho'] at ho; obtain rfl := Option.some.inj ho
      rw [hd'] at hd; injection hd
    · exact ⟨v, cell_k (fun o _ => t.only _ o z) hc, nO⟩
  · by_cases z : b = f
    · exact z ▸ hd.elim (fun q => q.2.elim fun m r => r.elim fun o r => r.elim fun es r => r.elim fun ep r => ⟨o, q.1 ▸ r.1, .inl ⟨_, _, r.2.1⟩⟩) fun q => q.2.elim fun v r => r.imp fun o r => ⟨r.1, .inr ⟨_, r.2⟩⟩
    · exact (e.fdata b fb).imp fun o q => ⟨t.only _ _ z q.1, q.2⟩
theorem FTurn.sr {c : Cx} {s : Shared} {h' : Heap} {tk : Nat} {O X F : Addr → Prop} {f : Addr} {sc : Sc} {env : Env} {ad : AdT} {hp : Hp} (t : FTurn s.heap h' O F f) (e : EnvOK c s.heap O F sc env)
    (H : SR c s O X ad hp) : SR c { s with heap := h', toks := tk } O X ad hp := by
  obtain ⟨⟨h, k, rfl⟩, hk, ho, hi, hx, hr⟩ := H
  have there : ∀ b, (∃ o, h.get? b = some o) → ∃ o, h'.get? b = some o := fun b ⟨o, q⟩ => by
    by_cases z : b = f
    · exact z ▸ t.there
    · exact ⟨o, t.only b o z q⟩
  exact ⟨⟨h', tk, rfl⟩, fun b o q => t.only b o (fun z => by rw [z, e.fnew f t.isF] at q; exact nS q) (hk b o q), ho, fun b q => there b (hi b q), fun b q => ⟨(hx b q).1, there b (hx b q).2⟩, t.hrel e hr⟩
theorem FTurn.step {h h' : Heap} {O F : Addr → Prop} {f : Addr} (t : FTurn h h' O F f) : Step h (U O F) h' (U O F) :=
  ⟨fun b o n q => t.only b o (fun z => n (.inr (z ▸ t.isF))) q, fun b q => .inl q⟩
section
variable {c : Cx} {M : Model} {A : Around} {E : Value → Shared → Prop} {s : Shared} {O X F : Addr → Prop} {sc : Sc} {env : Env} {ad : AdT} {hp : Hp} {loc : Loc}
theorem store_var {x : Nat} {rv : RV} {v : Value} {Q : Unit → Shared → Prop} (ok : c.OK) (H : SR c s O X ad hp) (e : EnvOK c s.heap O F sc env) (l : LocRel c s.heap O X ad env loc) (hx : x < c.N)
    (hk : sc.lookup (c.nm x) = some .local ∨ sc.lookup (c.nm x) = some .cell) (r : RepRV s.heap (U O X) ad rv v)
    (h : ∀ s', SR c s' O X ad hp → EnvOK c s'.heap O F sc env → LocRel c s'.heap O X ad env (setL x rv loc) → Step s.heap (U O F) s'.heap (U O F) → Q () s') :
    wpAny M A (storeName env (c.nm x) v) Q E s := by
  have hp' : (env.scope.kind == .class || (env.scope.kind == .module && env.locals != env.globals)) = false := by rw [e.kind]; rfl
  rcases hk with hk | hk
  · have hk' : env.kindOf (c.nm x) = some .local := by
      rcases e.kinds _ _ hk with q | ⟨q, _⟩
      · exact q
      · injection q
    obtain ⟨m, hm⟩ := e.ns
    refine wpAny_storeName_local hk' hm (fun h' hn hs => ?_) hp'
    have t : FTurn s.heap h' O F env.locals := ⟨(by obtain ⟨o, _, _, q, _⟩ := hn; exact ⟨o, q⟩), fun b o n q => hs.extBut b o n q, e.fL⟩
    refine h _ (t.sr e H) (t.env e (.inl ⟨rfl, _, hn⟩)) (fun y rv' q => ?_) t.step
    rw [lookupL_setL] at q
    by_cases z : y = x
    · subst z
      rw [if_pos rfl] at q; obtain rfl := Option.some.inj q
      exact ⟨hx, v, r.mono (t.rep e) (.refl _), .inl ⟨hk', _, hn, by simp⟩⟩
    · rw [if_neg z] at q
      obtain ⟨ly, v', r', hv⟩ := l y rv' q
      refine ⟨ly, v', r'.mono (t.rep e) (.refl _), ?_⟩
      rcases hv with ⟨ky, m', hm', q'⟩ | ⟨ky, a, hl, o, ho, hd⟩
      · have : m' = m := by rw [hm'.eq_nsMap, hm.eq_nsMap]
        subst this
        exact .inl ⟨ky, _, hn, by
          have : c.nm y ≠ c.nm x := fun w => z (ok.inj _ _ ly hx w)
          simp [this, q']⟩
      · refine .inr ⟨ky, a, hl, o, t.only _ _ (fun w => ?_) ho, hd⟩
        subst w
        obtain ⟨o', es, ep, ho', hd', _⟩ := hm
        rw [ho] at ho'; cases ho'; rw [hd] at hd'; cases hd'
  · have hk' : env.kindOf (c.nm x) = some .cell := by
      rcases e.kinds _ _ hk with q | ⟨q, _⟩
      · exact q
      · injection q
    obtain ⟨a, v₀, hl, hc, nO⟩ := e.cells _ (.inl hk')
    refine wpAny_storeName_cell e.kind hk' hl hc fun h' hc' hs => ?_
    have t : FTurn s.heap h' O F a := ⟨(by obtain ⟨o, q, _⟩ := hc'; exact ⟨o, q⟩), fun b o n q => hs.extBut b o n q, e.fcell _ _ hk hl⟩
    have naL : a ≠ env.locals := fun z => by
      obtain ⟨m, o', es, ep, ho', hd', _⟩ := e.ns
      obtain ⟨o, ho, hd⟩ := hc
      rw [z, ho'] at ho; obtain rfl := Option.some.inj ho; rw [hd] at hd'; cases hd'
    refine h _ (t.sr e H) (t.env e (.inr ⟨naL, _, hc'⟩)) (fun y rv' q => ?_) t.step
    rw [lookupL_setL] at q
    by_cases z : y = x
    · subst z
      rw [if_pos rfl] at q; obtain rfl := Option.some.inj q
      exact ⟨hx, v, r.mono (t.rep e) (.refl _), .inr ⟨.inl hk', a, hl, hc'⟩⟩
    · rw [if_neg z] at q
      obtain ⟨ly, v', r', hv⟩ := l y rv' q
      refine ⟨ly, v', r'.mono (t.rep e) (.refl _), ?_⟩
      rcases hv with ⟨ky, m', ⟨o', es, ep, ho', hd'⟩, q'⟩ | ⟨ky, a', hl', o, ho, hd⟩
      · exact .inl ⟨ky, m', ⟨o', es, ep, t.only _ _ (Ne.symm naL) ho', hd'⟩, q'⟩
      · refine .inr ⟨ky, a', hl', o, t.only _ _ (fun w => ?_) ho, hd⟩
        subst w
        exact z (ok.inj _ _ ly hx (e.inj _ _ _ hl' hl))
theorem load_var {x : Nat} {rv : RV} {Q : Value → Shared → Prop} (ok : c.OK) (e : EnvOK c s.heap O F sc env) (l : LocRel c s.heap O X ad env loc) (hx : lookupL x loc = some rv) {pos : Pos}
    (h : ∀ v, RepRV s.heap (U O X) ad rv v → Q v s) : wpAny M A (eval (.Name (c.nm x) pos) env) Q E s := by
  obtain ⟨lx, v, r, hv⟩ := l x rv hx
  have hd := ok.nodebug x lx
  rcases hv with ⟨k, m, hm, q⟩ | ⟨k | k, a, hl, hc⟩
  · exact wpAny_Name (wpAny_loadName_local e.kind k hm q (h v r)) hd
  · exact wpAny_Name (wpAny_loadName_cell e.kind k hl hc (h v r)) hd
  · exact wpAny_Name (wpAny_loadName_free e.kind k hl hc (h v r) (ok.nocd x lx)) hd
end
end Mine.Internal
namespace Mine.Internal
open PySem PySem.W PyProof.Rows
abbrev Kp (h h' : Heap) : Prop := ∀ b o, h.get? b = some o → h'.get? b = some o
theorem Kp.refl (h : Heap) : Kp h h := fun _ _ e => e
theorem Kp.trans {h h' h'' : Heap} (x : Kp h h') (y : Kp h' h'') : Kp h h'' := fun b o e => y b o (x b o e)
theorem Kp.push (h : Heap) (o : Obj) : Kp h (h.push o) := fun _ _ e => Heap.get?_push_of_some _ e
theorem Rep.kp {h h' : Heap} {O : Addr → Prop} {x : V} {v : Value} (k : Kp h h') (r : Rep h O x v) : Rep h' O x v := r.mono fun b o n e _ => ⟨k b o e, n⟩
theorem RepL.kp {h h' : Heap} {O : Addr → Prop} {x : List V} {v : List Value} (k : Kp h h') (r : RepL h O x v) : RepL h' O x v := r.mono fun b o n e _ => ⟨k b o e, n⟩
noncomputable def RepA (h : Heap) (O : Addr → Prop) : V → Value → Prop
  | .lst vs, v => ∃ a items n, v = .ref a ∧ h.get? a = some (listObj items n) ∧ items.length ≤ 4096 ∧ RepL h O vs items
  | x, v => Rep h O x v
theorem Rep.toA {h : Heap} {O : Addr → Prop} {x : V} {v : Value} (r : Rep h O x v) : RepA h O x v := by
  cases x with
  | lst vs => obtain ⟨a, items, n, e, _, r⟩ := r; exact ⟨a, items, n, e, r⟩
  | _ => exact r
theorem RepA.kp {h h' : Heap} {O : Addr → Prop} {x : V} {v : Value} (k : Kp h h') (r : RepA h O x v) : RepA h' O x v := by
  cases x with
  | lst vs => obtain ⟨a, items, n, e, g, hl, r⟩ := r; exact ⟨a, items, n, e, k _ _ g, hl, r.kp k⟩
  | _ => exact Rep.kp k r
theorem asV_rep {c : Cx} {h : Heap} {O X : Addr → Prop} {ad : AdT} {hp : Hp} {rv : RV} {x : V} {v : Value} (H : HRel c h O X ad hp) (e : asV hp rv = some x) (r : RepRV h (U O X) ad rv v) : RepA h (U O X) x v := by
  revert r
  refine asV_e e (fun r => Rep.toA r) (fun i xs q ex r => ?_) fun i xs q ex r => ?_
  · obtain ⟨a, w, ea, ev⟩ := r
    subst ex
    obtain ⟨_, hO, hl, items, n, hg, hr⟩ := H.obj i _ a w q ea
    exact ⟨_, items, n, ev, hg, hr.length ▸ hl, hr⟩
  · obtain ⟨a, w, ea, rfl⟩ := r
    subst ex
    exact Rep.toA (H.obj i _ a w q ea).2
noncomputable def POp (M : Model) (A : Around) (t : Sem Value) (s : Shared) (R : Heap → Value → Prop) : Prop :=
  ∀ (Q : Value → Shared → Prop) (E : Value → Shared → Prop), (∀ v h' tk, Kp s.heap h' → R h' v → Q v { s with heap := h', toks := tk }) → wpAny M A t Q E s
noncomputable def Room (A : Around) (cl : Nat) : Prop := A.handled = none ∧ A.depth + 4 * cl ≤ 900 ∧ A.units + 10 * cl ≤ 9000
theorem Room.h {A : Around} {cl : Nat} (r : Room A cl) : A.handled = none := r.1
theorem Room.u {A : Around} {cl : Nat} (r : Room A cl) : A.units + 800 < cLine := by have := r.2.2; unfold cLine; lia
noncomputable def Live (h : Heap) (O : Addr → Prop) : Prop := ∀ b, O b → ∃ o, h.get? b = some o
theorem Live.fresh {h : Heap} {O : Addr → Prop} (l : Live h O) {b : Addr} (n : h.get? b = none) : ¬ O b := fun q => by obtain ⟨o, e⟩ := l b q; rw [n] at e; exact nS e
theorem size_none (h : Heap) : h.get? h.objs.size = none := Heap.get?_none_of_le (Nat.le_refl _)
section
variable {prog : Program} {w : World} {A : Around} {s : Shared} {O : Addr → Prop}
theorem isTup_of {h : Heap} {a : Addr} {items : List Value} {n : Nat} (g : h.get? a = some (tupObj items n)) : IsTup h a items.toArray := ⟨_, g, rfl, n, rfl⟩
theorem isList_of {h : Heap} {a : Addr} {items : List Value} {n : Nat} (g : h.get? a = some (listObj items n)) : h.IsList a items.toArray := ⟨_, g, rfl, n, rfl⟩
theorem new_tup {h : Heap} {items : List Value} {xs : List V} (l : Live h O) (hl : items.length ≤ 4096) (r : RepL h O xs items) : Rep (h.push (tupObj items 0)) O (.tup xs) (.ref h.objs.size) :=
  ⟨_, items, 0, rfl, l.fresh (size_none h), Heap.get?_push_size _ rfl, hl, r.kp (Kp.push _ _)⟩
theorem new_lst {h : Heap} {items : List Value} {xs : List V} (l : Live h O) (hl : items.length ≤ 4096) (r : RepL h O xs items) : Rep (h.push (listObj items 0)) O (.lst xs) (.ref h.objs.size) :=
  ⟨_, items, 0, rfl, l.fresh (size_none h), Heap.get?_push_size _ rfl, hl, r.kp (Kp.push _ _)⟩
theorem line_4096 {n : Nat} (h : n ≤ 4096) : n ≤ sizeLine := by unfold sizeLine; lia
theorem p_newTuple {vs : List Value} {xs : List V} (l : Live s.heap O) (hl : vs.length ≤ 4096) (r : RepL s.heap O xs vs) : POp (model prog w) A (newTuple vs) s (fun h v => Rep h O (.tup xs) v) :=
  fun Q E k => wpAny_newObj_type (k _ _ _ (Kp.push _ _) (new_tup l hl r)) (by show vs.toArray.size ≤ sizeLine; rw [List.size_toArray]; exact line_4096 hl)
theorem p_newList {vs : List Value} {xs : List V} (l : Live s.heap O) (hl : vs.length ≤ 4096) (r : RepL s.heap O xs vs) : POp (model prog w) A (newList vs) s (fun h v => Rep h O (.lst xs) v) :=
  fun Q E k => wpAny_newObj_type (k _ _ _ (Kp.push _ _) (new_lst l hl r)) (by show vs.toArray.size ≤ sizeLine; rw [List.size_toArray]; exact line_4096 hl)
theorem p_add_tup {a b : Addr} {xs ys : List V} {its its2 : List Value} {n n2 : Nat} (l : Live s.heap O) (ha : ¬ O a) (hb : ¬ O b) (ga : s.heap.get? a = some (tupObj its n)) (gb : s.heap.get? b = some (tupObj its2 n2))
    (hl : its.length + its2.length ≤ 4096) (ra : RepL s.heap O xs its) (rb : RepL s.heap O ys its2) : POp (model prog w) A (binaryOp .Add (.ref a) (.ref b)) s (fun h v => Rep h O (.tup (xs ++ ys)) v) := fun Q E k => by
  by_cases h1 : its = []
  · subst h1
    have hx : xs = [] := List.length_eq_zero_iff.mp (by rw [← ra.length]; rfl)
    subst hx
    exact concat_meets ⟨_, ga, rfl⟩ ⟨_, gb, rfl⟩ noFill_tuple_add seq_tuple_add PySem.F.slot_tuple_add PySem.F.entry_tuple_add (PySem.F.args_tuple_add_2 _ _)
      (tuple_addW0 a b _ _ n n2 _ _ _ _ rfl) ⟨ga, gb, k _ s.heap s.toks (Kp.refl _) ⟨b, its2, n2, rfl, hb, gb, by simpa using hl, rb⟩⟩
  · by_cases h2 : its2 = []
    · subst h2
      have hx : ys = [] := List.length_eq_zero_iff.mp (by rw [← rb.length]; rfl)
      subst hx
      exact concat_meets ⟨_, ga, rfl⟩ ⟨_, gb, rfl⟩ noFill_tuple_add seq_tuple_add PySem.F.slot_tuple_add PySem.F.entry_tuple_add (PySem.F.args_tuple_add_2 _ _)
        (tuple_addW1 a b _ _ n n2 _ _ _ _ (by simpa using h1) rfl) ⟨ga, gb, k _ s.heap s.toks (Kp.refl _) ⟨a, its, n, rfl, ha, ga, by simpa using hl, by simpa using ra⟩⟩
    · refine concat_meets ⟨_, ga, rfl⟩ ⟨_, gb, rfl⟩ noFill_tuple_add seq_tuple_add PySem.F.slot_tuple_add PySem.F.entry_tuple_add (PySem.F.args_tuple_add_2 _ _)
        (tuple_addW2 a b _ _ n n2 _ _ _ _ (by simpa using h1) (by simpa using h2) (by rw [List.size_toArray, List.size_toArray]; exact line_4096 hl)) ⟨ga, gb, ?_⟩
      rw [show its.toArray ++ its2.toArray = (its ++ its2).toArray by simp]
      exact k _ _ s.toks (Kp.push _ _) (new_tup l (by rw [List.length_append]; exact hl) (ra.append rb))
theorem p_add_lst {a b : Addr} {xs ys : List V} {its its2 : List Value} {n n2 : Nat} (l : Live s.heap O) (ga : s.heap.get? a = some (listObj its n)) (gb : s.heap.get? b = some (listObj its2 n2))
    (hl : its.length + its2.length ≤ 4096) (ra : RepL s.heap O xs its) (rb : RepL s.heap O ys its2) : POp (model prog w) A (binaryOp .Add (.ref a) (.ref b)) s (fun h v => Rep h O (.lst (xs ++ ys)) v) := fun Q E k => by
  refine concat_meets ⟨_, ga, rfl⟩ ⟨_, gb, rfl⟩ noFill_list_add seq_list_add PySem.F.slot_list_add PySem.F.entry_list_add (PySem.F.args_list_add_2 _ _)
    (list_addW a b _ _ n n2 _ _ _ _ (by rw [List.size_toArray, List.size_toArray]; exact line_4096 hl)) ⟨ga, gb, ?_⟩
  rw [show its.toArray ++ its2.toArray = (its ++ its2).toArray by simp]
  exact k _ _ s.toks (Kp.push _ _) (new_lst l (by rw [List.length_append]; exact hl) (ra.append rb))
theorem p_mul8 {a : Addr} {x : V} {v : Value} {n : Nat} {u : Tok} (l : Live s.heap O) (ga : s.heap.get? a = some (listObj [v] n)) (r : Rep s.heap O x v) :
    POp (model prog w) A (binaryOp .Mult (.ref a) (.int 8 u)) s (fun h v => Rep h O (.lst (List.replicate 8 x)) v) := fun Q E k => by
  refine wpAny_binaryOp_repeat_ref (T := "list") (U := "int") (by decide) ⟨_, ga, rfl⟩ (fun s' => typeIs_int s' 8 u) noFill_list_mul F.fills_int_mul F.slot_int_rmul repeat_list F.slot_int_index.lookup
    (call_meets F.slot_int_rmul (typeIs_int s 8 u) F.entry_int_rmul (F.args_int_rmul_2 _ _) (int___rmul___int_list 8 u a #[v] n)
      ⟨ga, rfl, ⟨_, ga, rfl⟩, call_meets F.slot_list_mul ⟨_, ga, rfl⟩ F.entry_list_mul (F.args_list_mul_2 _ _)
        (AutoListH.list___mul___list_int_3 a #[v] n 8 u (by decide) (by simp) (by simp [Builtin.List.listTooLong, sizeLine]))
        ⟨ga, ?_⟩⟩)
  exact k _ _ s.toks (Kp.push _ _) (new_lst (items := List.replicate 8 v) l (by simp) (by
    simp only [List.replicate]
    refine ⟨v, _, rfl, r, v, _, rfl, r, v, _, rfl, r, v, _, rfl, r, v, _, rfl, r, v, _, rfl, r, v, _, rfl, r, v, _, rfl, r, rfl⟩))
theorem p_bin {op : BOp} {x y z : V} {a b : Value} (l : Live s.heap O) (ra : RepA s.heap O x a) (rb : RepA s.heap O y b) (e : binV op x y = some z) : POp (model prog w) A (binaryOp (opOf op) a b) s (fun h v => Rep h O z v) := by
  revert ra rb
  induction op with
  | add =>
    cases x with
    | int i =>
      refine oInt_e e fun j e => oS_e e ?_
      rintro ⟨t, rfl⟩ ⟨u, rfl⟩ Q E k
      exact add_int (k _ _ _ (Kp.refl _) ⟨_, rfl⟩)
    | tup p =>
      refine oTup_e e fun q e => oIf_e e fun hl e => oS_e e ?_
      rintro ⟨a', its, n, rfl, na, ga, _, ra⟩ ⟨b', its2, n2, rfl, nb, gb, _, rb⟩
      exact p_add_tup l na nb ga gb (by rw [ra.length, rb.length]; exact hl) ra rb
    | lst p =>
      refine oLst_e e fun q e => oIf_e e fun hl e => oS_e e ?_
      rintro ⟨a', its, n, rfl, ga, _, ra⟩ ⟨b', its2, n2, rfl, gb, _, rb⟩
      exact p_add_lst l ga gb (by rw [ra.length, rb.length]; exact hl) ra rb
    | _ => exact nS e
  | sub =>
    refine oInt_e e fun i e => oInt_e e fun j e => oS_e e ?_
    rintro ⟨t, rfl⟩ ⟨u, rfl⟩ Q E k
    exact sub_int (k _ _ _ (Kp.refl _) ⟨_, rfl⟩)
  | mul =>
    refine oLst_e e fun p e => oInt_e e fun n e => oIf_e e fun hn e => o1_e e fun x e => oS_e e ?_
    subst hn
    rintro ⟨a', its, m, rfl, ga, _, ra⟩ ⟨u, rfl⟩
    obtain ⟨v, r, rfl, rv, rfl⟩ := ra
    exact p_mul8 l ga rv
  | mod =>
    refine oInt_e e fun i e => oInt_e e fun j e => oIf_e e fun hj e => oS_e e ?_
    rintro ⟨t, rfl⟩ ⟨u, rfl⟩ Q E k
    exact mod_int' (Int.ne_of_gt hj) (k _ _ _ (Kp.refl _) ⟨_, rfl⟩)
  | fdiv =>
    refine oInt_e e fun i e => oInt_e e fun j e => oIf_e e fun hj e => oS_e e ?_
    rintro ⟨t, rfl⟩ ⟨u, rfl⟩ Q E k
    exact floordiv_int (Int.ne_of_gt hj.1) (k _ _ _ (Kp.refl _) ⟨_, rfl⟩) (.inl (PyProof.noPylong_small hj.2))
  | pow =>
    refine oInt_e e fun i e => oInt_e e fun j e => oIf_e e fun hj e => oS_e e ?_
    rintro ⟨t, rfl⟩ ⟨u, rfl⟩ Q E k
    obtain ⟨rfl, h0, h1⟩ := hj
    refine pow_int h0 ?_ (k _ _ _ (Kp.refl _) ⟨_, rfl⟩)
    rw [show Builtin.Int.intBits 2 = 2 by decide]
    lia
end
end Mine.Internal
namespace Mine.Internal
open PySem PySem.W PyProof.Rows
mutual
noncomputable def toPy : V → PyData
  | .none => .none
  | .bool b => .bool b
  | .int i => .int i
  | .str i => .str (strT i)
  | .tup vs => .tuple (toPys vs)
  | .lst vs => .list (toPys vs)
  | .rng _ _ _ => .none
noncomputable def toPys : List V → List PyData
  | [] => []
  | x :: xs => toPy x :: toPys xs
end
theorem strT_inj : ∀ i, i < 9 → ∀ j, j < 9 → ((strT i == strT j) = (i == j)) ∧ PyData.strOk (strT i) = true := by decide +kernel
mutual
noncomputable def okS : V → Prop
  | .str i => i < 9
  | .tup vs => okSs vs
  | .lst vs => okSs vs
  | _ => True
noncomputable def okSs : List V → Prop
  | [] => True
  | x :: xs => okS x ∧ okSs xs
end
theorem Rep.okS {h : Heap} {O : Addr → Prop} {x : V} : ∀ {v : Value}, Rep h O x v → Mine.Internal.okS x :=
  @V.rec (fun x => ∀ {v}, Rep h O x v → Mine.Internal.okS x) (fun xs => ∀ {vs}, RepL h O xs vs → okSs xs) (fun _ => trivial) (fun _ _ _ => trivial) (fun _ _ _ => trivial) (fun _ _ r => r.1)
    (fun _ ih _ r => r.elim fun _ r => r.elim fun _ r => r.elim fun _ r => ih r.2.2.2.2) (fun _ ih _ r => r.elim fun _ r => r.elim fun _ r => r.elim fun _ r => ih r.2.2.2.2) (fun _ _ _ _ _ => trivial)
    (fun _ => trivial) (fun _ _ a b _ r => RepL.out r fun _ _ p q => ⟨a p, b q⟩) x
theorem RepL.okS {h : Heap} {O : Addr → Prop} {xs : List V} : ∀ {vs : List Value}, RepL h O xs vs → okSs xs := by
  induction xs with
  | nil => exact fun _ => trivial
  | cons x xs ih => exact fun r => RepL.out r fun v l a b => ⟨a.okS, ih b⟩
theorem Rep.reads {h : Heap} {O : Addr → Prop} {x : V} : ∀ {v : Value}, Rep h O x v → depV x ≤ 99 → ∃ as, Reads h v (toPy x) as :=
  @V.rec (fun x => ∀ {v}, Rep h O x v → depV x ≤ 99 → ∃ as, Reads h v (toPy x) as) (fun xs => ∀ {vs}, RepL h O xs vs → depL xs ≤ 99 → ∃ as, ReadsAll h vs (toPys xs) as)
    (fun e _ => Eq.symm (show _ = Value.none from e) ▸ ⟨_, .none⟩) (fun b _ e _ => Eq.symm (show _ = Value.bool b from e) ▸ ⟨_, .bool b⟩) (fun i _ r _ => r.elim fun t e => Eq.symm e ▸ ⟨_, .int i t⟩) (fun i _ r _ => r.2.elim fun t e => Eq.symm e ▸ ⟨_, .str _ t⟩)
    (fun _ ih _ r d => r.elim fun _ r => r.elim fun _ r => r.elim fun _ r => (ih r.2.2.2.2 (Nat.le_of_succ_le d)).elim fun as q => Eq.symm r.1 ▸ ⟨_, .tuple r.2.2.1 rfl rfl q⟩)
    (fun _ ih _ r d => r.elim fun _ r => r.elim fun _ r => r.elim fun _ r => (ih r.2.2.2.2 (Nat.le_of_succ_le d)).elim fun as q => Eq.symm r.1 ▸ ⟨_, .list r.2.2.1 rfl rfl q⟩)
    (fun _ _ _ _ _ d => absurd (show 100 ≤ 99 from d) (by decide))
    (fun e _ => Eq.symm (show _ = [] from e) ▸ ⟨_, .nil⟩) (fun _ _ a b _ r d => RepL.out r fun v l p q => (a p (Nat.max_le.mp d).1).elim fun as p => (b q (Nat.max_le.mp d).2).elim fun bs q => ⟨_, .cons p q⟩) x
theorem RepL.reads {h : Heap} {O : Addr → Prop} {xs : List V} : ∀ {vs : List Value}, RepL h O xs vs → depL xs ≤ 99 → ∃ as, ReadsAll h vs (toPys xs) as := by
  induction xs with
  | nil => exact fun e _ => Eq.symm (show _ = [] from e) ▸ ⟨_, .nil⟩
  | cons x xs ih => exact fun r d => RepL.out r fun v l p q => (p.reads (Nat.max_le.mp d).1).elim fun as p => (ih q (Nat.max_le.mp d).2).elim fun bs q => ⟨_, .cons p q⟩
theorem RepA.reads {h : Heap} {O : Addr → Prop} {x : V} {v : Value} (r : RepA h O x v) (d : depV x ≤ 99) : ∃ as, Reads h v (toPy x) as := by
  cases x with
  | lst vs =>
    obtain ⟨a, items, n, e, g, _, r⟩ := r
    subst e
    obtain ⟨as, q⟩ := RepL.reads r (by have d : depL vs + 1 ≤ 99 := d; lia)
    exact ⟨_, .list g rfl rfl q⟩
  | _ => exact Rep.reads (h := h) (O := O) r d
theorem RepA.okS {h : Heap} {O : Addr → Prop} {x : V} {v : Value} (r : RepA h O x v) : Mine.Internal.okS x := by
  cases x with
  | lst vs => obtain ⟨a, items, n, e, g, _, r⟩ := r; exact RepL.okS r
  | _ => exact Rep.okS (h := h) (O := O) r
mutual
theorem toPy_lay : ∀ {x : V}, okS x → (toPy x).canLay0 = true
  | .none => @fun _ => rfl
  | .bool _ => @fun _ => rfl
  | .int _ => @fun _ => rfl
  | .str i => @fun k => (strT_inj i k 0 (by decide)).2
  | .rng _ _ _ => @fun _ => rfl
  | .tup vs => @fun k => toPys_lay k
  | .lst vs => @fun k => toPys_lay k
theorem toPys_lay : ∀ {xs : List V}, okSs xs → PyData.canLayAll0 (toPys xs) = true
  | [] => @fun _ => rfl
  | x :: xs => @fun k => (Bool.and_eq_true ..).mpr ⟨toPy_lay k.1, toPys_lay k.2⟩
end
theorem toPy_depth (x : V) : depV x ≤ 99 → (toPy x).depth ≤ depV x :=
  @V.rec (fun x => depV x ≤ 99 → (toPy x).depth ≤ depV x) (fun xs => depL xs ≤ 99 → PyData.depthAll (toPys xs) ≤ depL xs) (fun _ => Nat.le_refl 0) (fun _ _ => Nat.le_refl 0) (fun _ _ => Nat.le_refl 0) (fun _ _ => Nat.le_refl 0)
    (fun _ ih k => Nat.succ_le_succ (ih (Nat.le_of_succ_le k))) (fun _ ih k => Nat.succ_le_succ (ih (Nat.le_of_succ_le k))) (fun _ _ _ k => absurd (show 100 ≤ 99 from k) (by decide))
    (fun _ => Nat.le_refl 0) (fun x xs a b k => Nat.max_le.mpr ⟨Nat.le_trans (a (Nat.max_le.mp k).1) (Nat.le_max_left (depV x) (depL xs)), Nat.le_trans (b (Nat.max_le.mp k).2) (Nat.le_max_right (depV x) (depL xs))⟩) x
theorem toPys_depth (xs : List V) : depL xs ≤ 99 → PyData.depthAll (toPys xs) ≤ depL xs := by
  induction xs with
  | nil => exact fun _ => Nat.le_refl 0
  | cons x xs ih => exact fun k => Nat.max_le.mpr ⟨Nat.le_trans (toPy_depth x (Nat.max_le.mp k).1) (Nat.le_max_left (depV x) (depL xs)), Nat.le_trans (ih (Nat.max_le.mp k).2) (Nat.le_max_right (depV x) (depL xs))⟩
mutual
theorem toPy_eqv : ∀ (x y : V), okS x → okS y → depV x ≤ 99 → depV y ≤ 99 → PyData.eqv (toPy x) (toPy y) = eqV x y
  | .none => @fun y _ _ _ d => by rcases y with _ | _ <;> first | rfl | exact absurd d (show ¬ 100 ≤ 99 by decide)
  | .bool _ => @fun y _ _ _ d => by rcases y with _ | _ <;> first | rfl | exact absurd d (show ¬ 100 ≤ 99 by decide)
  | .int _ => @fun y _ _ _ d => by rcases y with _ | _ <;> first | rfl | exact absurd d (show ¬ 100 ≤ 99 by decide)
  | .str i => @fun y k k' _ d => by
    cases y with
    | str j => exact (strT_inj i k j k').1
    | rng => exact absurd d (show ¬ 100 ≤ 99 by decide)
    | _ => rfl
  | .rng _ _ _ => @fun _ _ _ d _ => absurd d (show ¬ 100 ≤ 99 by decide)
  | .tup vs => @fun y k k' d d' => by
    cases y with
    | tup ws => exact toPys_eqv vs ws k k' (Nat.le_of_succ_le d) (Nat.le_of_succ_le d')
    | rng => exact absurd d' (show ¬ 100 ≤ 99 by decide)
    | _ => rfl
  | .lst vs => @fun y k k' d d' => by
    cases y with
    | lst ws => exact toPys_eqv vs ws k k' (Nat.le_of_succ_le d) (Nat.le_of_succ_le d')
    | rng => exact absurd d' (show ¬ 100 ≤ 99 by decide)
    | _ => rfl
theorem toPys_eqv : ∀ (xs ys : List V), okSs xs → okSs ys → depL xs ≤ 99 → depL ys ≤ 99 → PyData.eqvAll (toPys xs) (toPys ys) = eqL xs ys
  | [], [] => @fun _ _ _ _ => rfl
  | [], _ :: _ => @fun _ _ _ _ => rfl
  | _ :: _, [] => @fun _ _ _ _ => rfl
  | x :: xs, y :: ys => @fun k k' d d' => by
    show (PyData.eqv (toPy x) (toPy y) && PyData.eqvAll (toPys xs) (toPys ys)) = (eqV x y && eqL xs ys)
    rw [toPy_eqv x y k.1 k'.1 (Nat.max_le.mp d).1 (Nat.max_le.mp d').1, toPys_eqv xs ys k.2 k'.2 (Nat.max_le.mp d).2 (Nat.max_le.mp d').2]
end
section
variable {prog : Program} {w : World} {A : Around} {s : Shared} {O : Addr → Prop} {cl : Nat}
theorem p_eq {x y : V} {a b : Value} (rm : Room A cl) (ra : RepA s.heap O x a) (rb : RepA s.heap O y b) (dx : depV x ≤ 8) (dy : depV y ≤ 8) :
    POp (model prog w) A (compareOp .Eq a b) s (fun h v => v = .bool (eqV x y)) := fun Q E k => by
  obtain ⟨as, pa⟩ := ra.reads (by lia)
  obtain ⟨bs, pb⟩ := rb.reads (by lia)
  have h1 := toPy_depth x (by lia)
  refine SeqAt.compareEq_reads pa pb (toPy_lay ra.okS) (toPy_lay rb.okS) (by have := rm.u; lia) (k _ _ _ (Kp.refl _) ?_)
  rw [toPy_eqv x y ra.okS rb.okS (by lia) (by lia)]
theorem p_ne {x y : V} {a b : Value} (rm : Room A cl) (ra : RepA s.heap O x a) (rb : RepA s.heap O y b) (dx : depV x ≤ 8) (dy : depV y ≤ 8) :
    POp (model prog w) A (compareOp .NotEq a b) s (fun h v => v = .bool (!eqV x y)) := fun Q E k => by
  obtain ⟨as, pa⟩ := ra.reads (by lia)
  obtain ⟨bs, pb⟩ := rb.reads (by lia)
  have h1 := toPy_depth x (by lia)
  refine SeqAt.compareNe_reads pa pb (toPy_lay ra.okS) (toPy_lay rb.okS) (by have := rm.u; lia) (k _ _ _ (Kp.refl _) ?_)
  rw [toPy_eqv x y ra.okS rb.okS (by lia) (by lia)]
end
end Mine.Internal
namespace Mine.Internal
open PySem PySem.W PyProof.Rows PySem.SeqAt
open AutoSeq1 (wpAny_loadPart')
open MeetsSeq MeetsSeq2 MeetsSeq3 SeqRoads2
noncomputable def mineLt : List (Int × Int) → Nat → Nat → Bool
  | [], a, b => decide (a < b)
  | (x, y) :: r, a, b => if x = y then mineLt r a b else decide (x < y)
set_option maxHeartbeats 2000000 in
theorem mine_tuple_lt (l b : Addr) (items items2 : Array Value) (n n2 : Nat) (dd dd2 : Option Addr) (sl sl2 : Array (Option Value)) (zs : List (Int × Int)) :
    Meets (Builtin.«tuple.__lt__» ⟨[.ref l, .ref b], []⟩)
      (fun A R s => s.heap.get? l = some { cls := .type "tuple", dict := dd, data := .seq items n, slots := sl } ∧ s.heap.get? b = some { cls := .type "tuple", dict := dd2, data := .seq items2 n2, slots := sl2 } ∧
        (zs.length = (items.toList.zip items2.toList).length ∧ ∀ (j : Nat) (x y : Value), (items.toList.zip items2.toList)[j]? = some (x, y) → ∃ p q t u, zs[j]? = some (p, q) ∧ x = Value.int p t ∧ y = Value.int q u) ∧
        R (.ok (.ret (.bool (mineLt zs items.size items2.size)))) s) :=
  .of_wp fun prog w A R s h => by
    obtain ⟨hp, g, d, tk, os⟩ := s; obtain ⟨hl, hb, he, h⟩ := h
    have f2 := AutoSeq1.sub_tuple_tuple
    wp_walk using wpAny_loadPart' hl, wpAny_loadPart' hb, wpAny_forIn_list _ (fun rest b s' => b.1 = none ∧ s' = ⟨hp, g, d, tk, os⟩ ∧ ∃ i, rest = (items.toList.zip items2.toList).drop i ∧
      R (.ok (.ret (.bool (mineLt (zs.drop i) items.size items2.size)))) ⟨hp, g, d, tk, os⟩) _
    case h.h.hq.h.hq.hq.h => exact ⟨rfl, rfl, 0, by simp, by simpa using h⟩
    case turn =>
      rintro ⟨y, x⟩ rest b s' ⟨hb', rfl, i, hz, hR⟩
      have hlt : i < (items.toList.zip items2.toList).length := by
        rcases Nat.lt_or_ge i (items.toList.zip items2.toList).length with h' | h'
        · exact h'
        · rw [List.drop_of_length_le h'] at hz; injection hz
      rw [List.drop_eq_getElem_cons hlt] at hz
      injection hz with hyx hrest
      obtain ⟨p, q, t, u, hzs, rfl, rfl⟩ := he.2 i y x (by rw [List.getElem?_eq_getElem hlt, hyx])
      have hzl : i < zs.length := by rw [he.1]; exact hlt
      have hd : zs.drop i = (p, q) :: zs.drop (i + 1) := by
        rw [List.drop_eq_getElem_cons hzl]
        rw [List.getElem?_eq_getElem hzl] at hzs
        rw [Option.some.inj hzs]
      rw [hd] at hR
      refine wpAny_bind (EqAt.int_int p t q u prog w _ _ ?_)
      by_cases hpq : p = q
      · rw [mineLt, if_pos hpq] at hR
        rw [show (p == q) = true by simpa using hpq]
        wp_walk
        exact ⟨rfl, rfl, i + 1, hrest, hR⟩
      · rw [mineLt, if_neg hpq] at hR
        rw [show (p == q) = false by simpa using hpq]
        show wpAny _ _ (do rule "tuple.compare.by-the-first-pair-that-differs"; let x ← richCompare CmpOp.Lt (Value.int p t) (Value.int q u); let y ← ret x; pure (ForInStep.done (some y, ()))) _ _ _
        refine wpAny_bind (wpAny_rule (wpAny_bind (m := richCompare CmpOp.Lt (Value.int p t) (Value.int q u)) (lt_int (a := p) (b := q) (t := t) (u := u) ?_)))
        wp_walk
        exact ⟨_, rfl, hR⟩
    case fin =>
      rintro ⟨b1, b2⟩ s' ⟨hb', rfl, i, hz, hR⟩
      simp only at hb'
      subst hb'
      have hge : (items.toList.zip items2.toList).length ≤ i := by
        rcases Nat.lt_or_ge i (items.toList.zip items2.toList).length with h' | h'
        · rw [List.drop_eq_getElem_cons h'] at hz; injection hz
        · exact h'
      rw [List.drop_of_length_le (by rw [he.1]; exact hge), mineLt] at hR
      wp_walk
      exact ⟨_, rfl, hR⟩
end Mine.Internal
namespace Mine.Internal
open PySem PySem.W PyProof.Rows
theorem intsOf_c {i : Int} {r : List V} : intsOf (.int i :: r) = vS none (intsOf r) fun is => some (i :: is) := by kernel_rfl
theorem intsOf_map : ∀ is : List Int, intsOf (is.map .int) = some is
  | [] => rfl
  | i :: r => by
    rw [List.map_cons, intsOf_c, intsOf_map r]; rfl
theorem intsOf_eq : ∀ {xs : List V} {is : List Int}, intsOf xs = some is → xs = is.map .int
  | [], is => @fun e => by obtain rfl := Option.some.inj e; rfl
  | x :: xs, is => @fun e => by
    rcases x with _ | _ <;> first | exact nS e | skip
    rename_i i
    exact vS_e (intsOf_c.symm.trans e) fun is' q e => by obtain rfl := Option.some.inj e; rw [intsOf_eq q]; rfl
theorem RepL.int_at {h : Heap} {O : Addr → Prop} : ∀ {is : List Int} {vs : List Value}, RepL h O (is.map .int) vs → ∀ {j : Nat} {v : Value}, vs[j]? = some v → ∃ i t, is[j]? = some i ∧ v = .int i t := by
  intro is vs r j v e
  obtain ⟨x, hx, rx⟩ := r.get e
  rw [List.getElem?_map] at hx
  induction q : is[j]? with
  | none => rw [q] at hx; exact nS hx
  | some i => rw [q] at hx; obtain rfl := Option.some.inj hx; obtain ⟨t, rfl⟩ := rx; exact ⟨i, t, rfl, rfl⟩
theorem mineLt_zip : ∀ (xs ys : List Int), mineLt (xs.zip ys) xs.length ys.length = ltI xs ys := by
  have sh : ∀ (l : List (Int × Int)) n m, mineLt l (n + 1) (m + 1) = mineLt l n m := by
    intro l
    induction l with
    | nil => intro n m; simp [mineLt]
    | cons p l ihl => intro n m; obtain ⟨c, d⟩ := p; simp only [mineLt]; split <;> simp [ihl]
  intro xs
  induction xs with
  | nil => intro ys; rcases ys with _ | _ <;> simp [mineLt, ltI]
  | cons x xs ih =>
    intro ys
    induction ys with
    | nil => simp [mineLt, ltI]
    | cons y ys => simp only [List.zip_cons_cons, List.length_cons, mineLt, ltI, sh, ih]
section
variable {prog : Program} {w : World} {A : Around} {s : Shared} {O : Addr → Prop} {cl : Nat}
theorem p_lt_tup {a b : Addr} {xs ys : List Int} {its its2 : List Value} {n n2 : Nat} (rm : Room A cl) (ga : s.heap.get? a = some (tupObj its n)) (gb : s.heap.get? b = some (tupObj its2 n2))
    (ra : RepL s.heap O (xs.map .int) its) (rb : RepL s.heap O (ys.map .int) its2) : POp (model prog w) A (compareOp .Lt (.ref a) (.ref b)) s (fun h v => v = .bool (ltI xs ys)) := fun Q E k => by
  have l1 : its.length = xs.length := by rw [ra.length, List.length_map]
  have l2 : its2.length = ys.length := by rw [rb.length, List.length_map]
  refine richCompare_meets_room (op := .Lt) ⟨_, ga, rfl⟩ ⟨_, gb, rfl⟩ F.slot_tuple_lt F.entry_tuple_lt (F.args_tuple_lt_2 _ _) (mine_tuple_lt a b _ _ n n2 _ _ _ _ (xs.zip ys))
    ⟨ga, gb, ⟨by simp [l1, l2], fun j x y e => ?_⟩, (fun z => nomatch z), k _ s.heap s.toks (Kp.refl _) ?_⟩ (by have := rm.u; lia)
  · simp only [List.getElem?_zip_eq_some] at e
    obtain ⟨p, t, hp, rfl⟩ := ra.int_at e.1
    obtain ⟨q, u, hq, rfl⟩ := rb.int_at e.2
    exact ⟨p, q, t, u, by simp [List.getElem?_zip_eq_some, hp, hq], rfl, rfl⟩
  · rw [List.size_toArray, List.size_toArray, l1, l2, mineLt_zip]
theorem mem_any {x : V} {xv : Value} (rx : RepA s.heap O x xv) (dx : depV x ≤ 8) : ∀ {xs : List V} {vs : List Value}, RepL s.heap O xs vs → depL xs ≤ 8 → ∃ e : Value → Bool, vs.any e = memV x xs ∧ ∀ y, y ∈ vs → ∀ A : Around, A.units + 100 < cLine → SeqAt.EqAt A s y xv (e y) := by
  intro xs vs r d
  obtain ⟨as, px⟩ := rx.reads (by lia)
  classical
  refine ⟨fun v => if h : ∃ y, Rep s.heap O y v ∧ depV y ≤ 8 then eqV h.choose x else false, ?_, ?_⟩
  · have key : ∀ {y : V} {v : Value}, Rep s.heap O y v → depV y ≤ 8 → ∀ (h : ∃ y, Rep s.heap O y v ∧ depV y ≤ 8), eqV h.choose x = eqV y x := by
      intro y v ry dy h
      obtain ⟨ry', dy'⟩ := h.choose_spec
      obtain ⟨bs, p1⟩ := ry.reads (by lia)
      obtain ⟨cs, p2⟩ := ry'.reads (by lia)
      rw [← toPy_eqv _ x ry'.okS rx.okS (by lia) (by lia), ← toPy_eqv y x ry.okS rx.okS (by lia) (by lia)]
      rw [SeqAt.Reads.unique _ _ _ _ _ (toPy_lay ry.okS) p1 p2]
    induction xs generalizing vs with
    | nil => subst r; rfl
    | cons y ys ih =>
      obtain ⟨v, q, rfl, ry, rys⟩ := r
      simp only [depL] at d
      have hy : ∃ y, Rep s.heap O y v ∧ depV y ≤ 8 := ⟨y, ry, by lia⟩
      simp only [List.any_cons, memV]
      rw [dif_pos hy, key ry (by lia) hy, ih rys (by lia)]
      rfl
  · intro y hy A hu
    obtain ⟨j, hj, rfl⟩ := List.getElem_of_mem hy
    obtain ⟨z, hz, rz⟩ := r.get (List.getElem?_eq_getElem hj)
    have dz : depV z ≤ 8 := by
      have : ∀ {l : List V} {i : Nat} {z : V}, l[i]? = some z → depV z ≤ depL l := by
        intro l
        induction l with
        | nil => intro i z e; simp at e
        | cons a l ih =>
          intro i z e
          simp only [depL]
          induction i with
          | zero => simp at e; subst e; lia
          | succ i => have := ih (by simpa using e); lia
      have := this hz
      lia
    have h : ∃ y, Rep s.heap O y vs[j] ∧ depV y ≤ 8 := ⟨z, rz, dz⟩
    show SeqAt.EqAt A s vs[j] xv (if h : ∃ y, Rep s.heap O y vs[j] ∧ depV y ≤ 8 then eqV h.choose x else false)
    rw [dif_pos h]
    obtain ⟨rc, dc⟩ := h.choose_spec
    obtain ⟨bs, p1⟩ := rc.reads (by lia)
    have hd := toPy_depth h.choose (by lia)
    have := SeqAt.eqAt_reads _ _ A s _ _ _ _ p1 px (toPy_lay rc.okS) (toPy_lay rx.okS) (by lia)
    rwa [toPy_eqv _ x rc.okS rx.okS (by lia) (by lia)] at this
theorem p_cmp {op : COp} {x y : V} {z : Bool} {a b : Value} (rm : Room A cl) (ra : RepA s.heap O x a) (rb : RepA s.heap O y b) (e : cmpV op x y = some z) :
    POp (model prog w) A (compareOp (copOf op) a b) s (fun h v => v = .bool z) := by
  revert ra rb
  induction op with
  | lt =>
    cases x with
    | int i =>
      refine oInt_e e fun j e => oS_e e ?_
      rintro ⟨t, rfl⟩ ⟨u, rfl⟩ Q E k
      exact lt_int (k _ _ _ (Kp.refl _) rfl)
    | tup p =>
      refine oTup_e e fun q e => oB_e e fun is h1 e => oB_e e fun js h2 e => oS_e e ?_
      rintro ⟨a', its, n, rfl, _, ga, _, ra⟩ ⟨b', its2, n2, rfl, _, gb, _, rb⟩
      rw [intsOf_eq h1] at ra
      rw [intsOf_eq h2] at rb
      exact p_lt_tup rm ga gb ra rb
    | _ => exact nS e
  | le =>
    refine oInt_e e fun i e => oInt_e e fun j e => oS_e e ?_
    rintro ⟨t, rfl⟩ ⟨u, rfl⟩ Q E k
    exact le_int (k _ _ _ (Kp.refl _) rfl)
  | gt =>
    refine oInt_e e fun i e => oInt_e e fun j e => oS_e e ?_
    rintro ⟨t, rfl⟩ ⟨u, rfl⟩ Q E k
    exact gt_int (k _ _ _ (Kp.refl _) rfl)
  | ge =>
    refine oInt_e e fun i e => oInt_e e fun j e => oS_e e ?_
    rintro ⟨t, rfl⟩ ⟨u, rfl⟩ Q E k
    exact ge_int (k _ _ _ (Kp.refl _) rfl)
  | eq => exact oIf_e e fun d e => oS_e e fun ra rb => p_eq rm ra rb d.1 d.2
  | ne => exact oIf_e e fun d e => oS_e e fun ra rb => p_ne rm ra rb d.1 d.2
  | isN =>
    cases y with
    | none =>
      cases x with
      | none => refine oS_e e ?_; rintro rfl rfl Q E k; exact is_none_none (k _ _ _ (Kp.refl _) rfl)
      | tup _ => refine oS_e e ?_; rintro ⟨a', its, n, rfl, _⟩ rfl Q E k; exact is_none_ne (by intro q; injection q) (k _ _ _ (Kp.refl _) rfl)
      | lst _ => refine oS_e e ?_; rintro ⟨a', its, n, rfl, _⟩ rfl Q E k; exact is_none_ne (by intro q; injection q) (k _ _ _ (Kp.refl _) rfl)
      | _ => exact nS e
    | _ => exact nS e
  | inn =>
    refine oLst_e e fun q e => oIf_e e fun d e => oS_e e fun ra rb Q E k => ?_
    obtain ⟨b', its, n, rfl, gb, _, rb⟩ := rb
    obtain ⟨f, h1, h2⟩ := mem_any ra d.1 rb d.2
    refine SeqAt.in_listAt f (isList_of gb) (fun y hy => h2 y (by simpa using hy) A.in1 (by have := rm.u; simp only [Around.in1_units]; lia)) (k _ _ _ (Kp.refl _) ?_)
    rw [← h1]; simp
  | notin =>
    refine oLst_e e fun q e => oIf_e e fun d e => oS_e e fun ra rb Q E k => ?_
    obtain ⟨b', its, n, rfl, gb, _, rb⟩ := rb
    obtain ⟨f, h1, h2⟩ := mem_any ra d.1 rb d.2
    refine SeqAt.notIn_listAt f (isList_of gb) (fun y hy => h2 y (by simpa using hy) A.in1 (by have := rm.u; simp only [Around.in1_units]; lia)) (k _ _ _ (Kp.refl _) ?_)
    rw [← h1]; simp
end
end Mine.Internal
namespace Mine.Internal
open PySem PySem.W PyProof.Rows
open AutoSeq1 (wpAny_loadPart')
noncomputable def bltVal : Blt → Value
  | .abs => .builtin "abs" | .len => .builtin "len" | .min => .builtin "min" | .max => .builtin "max"
  | .tuple => .type "tuple" | .list => .type "list" | .range => .type "range" | .sorted => .builtin "sorted"
noncomputable def RepAs (h : Heap) (O : Addr → Prop) : List V → List Value → Prop
  | [], l => l = []
  | x :: xs, l => ∃ v r, l = v :: r ∧ RepA h O x v ∧ RepAs h O xs r
@[elab_as_elim] theorem RepAs.out {h : Heap} {O : Addr → Prop} {x : V} {xs : List V} {vs : List Value} {M : List Value → Prop} (r : RepAs h O (x :: xs) vs) (k : ∀ v l, RepA h O x v → RepAs h O xs l → M (v :: l)) : M vs :=
  (show ∃ v l, vs = v :: l ∧ RepA h O x v ∧ RepAs h O xs l from r).elim fun v r => r.elim fun l r => Eq.symm r.1 ▸ k v l r.2.1 r.2.2
@[elab_as_elim] theorem RepAs.out1 {h : Heap} {O : Addr → Prop} {x : V} {vs : List Value} {M : List Value → Prop} (r : RepAs h O [x] vs) (k : ∀ v, RepA h O x v → M [v]) : M vs :=
  RepAs.out r fun v l a b => Eq.symm (show l = [] from b) ▸ k v a
theorem rangeSize_rngN {a b st : Int} (h : st = 1 ∨ st = -1) : Builtin.Range.rangeSize a b st = rngN a b st := by
  unfold Builtin.Range.rangeSize rngN
  rcases h with rfl | rfl
  · simp only [show (1 : Int) > 0 by decide, if_true, Int.ediv_one]
    split <;> omega
  · simp only [show ¬ ((-1 : Int) > 0) by decide, if_false, show ¬ ((-1 : Int) = 1) by decide, if_true]
    simp
    split <;> omega
theorem rngN_le {a b st : Int} (hb : -4096 ≤ a ∧ a ≤ 4096 ∧ -4096 ≤ b ∧ b ≤ 4096 ∧ (st = 1 ∨ st = -1)) : rngN a b st ≤ 8192 := by
  unfold rngN
  split
  · omega
  · split <;> omega
theorem small_rng {a b st : Int} (hb : -4096 ≤ a ∧ a ≤ 4096 ∧ -4096 ≤ b ∧ b ≤ 4096 ∧ (st = 1 ∨ st = -1)) : Builtin.Range.small a b st = true := by
  have e := rangeSize_rngN (a := a) (b := b) hb.2.2.2.2
  have := rngN_le hb
  unfold Builtin.Range.small
  rw [e]
  rcases hb.2.2.2.2 with rfl | rfl <;>
  simp [Builtin.Range.rangeFitsLong] <;> omega
theorem RepL.of_at {h : Heap} {O : Addr → Prop} : ∀ {xs : List V} {vs : List Value}, vs.length = xs.length → (∀ (j : Nat) (x : V) (v : Value), xs[j]? = some x → vs[j]? = some v → Rep h O x v) → RepL h O xs vs
  | [], [] => @fun _ _ => rfl
  | [], _ :: _ => @fun e _ => by simp at e
  | _ :: _, [] => @fun e _ => by simp at e
  | x :: xs, v :: vs => @fun e k => ⟨v, vs, rfl, k 0 x v rfl rfl, RepL.of_at (by simpa using e) fun j x' v' p q => k (j + 1) x' v' (by simpa using p) (by simpa using q)⟩
theorem repL_rng {h : Heap} {O : Addr → Prop} {a b st : Int} {acc : Array Value} (r : ItemsOf (fun i v => ∃ t, v = .int (a + i * st) t) acc (rngN a b st)) : RepL h O (rngItems a b st) acc.toList := by
  refine RepL.of_at (by simp [rngItems, r.1]) fun j x v p q => ?_
  rw [Array.getElem?_toList] at q
  obtain ⟨t, rfl⟩ := r.2 j v q
  unfold rngItems at p
  rw [List.getElem?_map] at p
  have hj : j < rngN a b st := by
    rw [← r.1]
    exact (Array.getElem?_eq_some_iff.mp q).1
  rw [List.getElem?_range hj] at p
  obtain rfl := Option.some.inj p
  refine ⟨t, ?_⟩
  rw [Int.mul_comm st]
section
variable {prog : Program} {w : World} {A : Around} {E : Value → Shared → Prop} {s : Shared}
theorem collect_range {Q : List Value → Shared → Prop} {r : Addr} {a b c : Int} {t u v : Tok} {n : Nat} (hh : A.handled = none) (hr : IsRange s.heap r a b c t u v) (hsmall : Builtin.Range.small a b c = true)
    (hn : Builtin.Range.rangeSize a b c = n) (hlen : n ≤ 2 ^ 24)
    (hQ : ∀ h' tk acc', Kp s.heap h' → ItemsOf (fun i v => ∃ t, v = .int (a + i * c) t) acc' n → Q acc'.toList { s with heap := h', toks := tk }) :
    wpAny (model prog w) A (collect (.ref r)) Q E s := by
  unfold collect
  refine wpAny_bind (wpAny_runValue (codeAny_builtin F.entry_proto_collect ?_))
  rw [Around.under_plainId F.plain_proto_collect _]
  show wpAny _ A.in1 (newList [] >>= fun l => again (.builtin "list.__iadd__" ⟨[l, .ref r], []⟩)) _ _ s
  refine wpAny_bind (wpAny_newObj_type ?_)
  refine wpAny_pure ⟨plainId_quiet F.plain_list_iadd _, codeAny_builtin F.entry_list_iadd ?_⟩
  rw [Around.under_plainId F.plain_list_iadd _]
  show wpAny _ A.in1 (Builtin.List.listExtendWith (.ref s.heap.objs.size) (.ref r) (.ref s.heap.objs.size)) _ _ _
  have hS : (s.heap.push { cls := .type "list", data := .seq ([] : List Value).toArray }).get? s.heap.objs.size = some { cls := .type "list", data := .seq #[] 0 } := Heap.get?_push_size _ rfl
  have fin' : ∀ h' tk acc' c', Kp s.heap h' → h'.get? s.heap.objs.size = some { cls := .type "list", dict := none, data := .seq acc' c', slots := #[] } → ItemsOf (fun i v => ∃ t, v = .int (a + i * c) t) acc' n →
     wpAny (model prog w) A (match Value.ref s.heap.objs.size with
      | Value.ref a => do
        match (← load a).data with
          | Data.seq xs _ => pure xs.toList
          | _ => unsupported "internal:collect"
      | _ => unsupported "internal:collect") Q E { s with heap := h', toks := tk } := fun h' tk acc' c' k g i => by
    show wpAny _ A (load s.heap.objs.size >>= _) _ _ _
    refine wpAny_bind (wpAny_load g ?_)
    refine wpAny_pure ?_
    exact hQ h' tk acc' k i
  refine wpAny_mono (wpAny_extend_range (A := A) (n := n) (R := fun r s' => r = .ok (.ret (.ref s.heap.objs.size)) ∧ ∃ h' tk acc' c', Kp s.heap h' ∧ h'.get? s.heap.objs.size = some { cls := .type "list", dict := none, data := .seq acc' c', slots := #[] } ∧ ItemsOf (fun i v => ∃ t, v = .int (a + i * c) t) acc' n ∧ s' = { s with heap := h', toks := tk })
    (s := { s with heap := s.heap.push { cls := .type "list", data := .seq ([] : List Value).toArray } }) hh (Heap.get?_push_of_some _ hr) hsmall hn hlen s.heap.objs.size _ 0 hS fun h' tk acc' c' k g i => ⟨rfl, h', tk, acc', c', fun b o e => k b o (Nat.ne_of_lt (Heap.lt_size e)) (Heap.get?_push_of_some _ e), g, i, rfl⟩) (fun fin s' h => ?_) (fun e s' h => ?_)
  · induction fin with
    | done f =>
      obtain ⟨e, h', tk, acc', c', k, g, i, rfl⟩ := h
      rcases e with ⟨⟩
      exact fin' _ _ _ _ k g i
    | again c' => exact ⟨h.1, codeAny_mono h.2 fun r s'' hr => by obtain ⟨rfl, h', tk, acc', c', k, g, i, rfl⟩ := hr; exact fin' _ _ _ _ k g i⟩
  · exact absurd h.1 (by simp)
end
theorem meets_tuple_new_range (r : Addr) (a b c : Int) (t u v : Tok) (n : Nat) (hsmall : Builtin.Range.small a b c = true) (hn : Builtin.Range.rangeSize a b c = n) (hlen : n ≤ 4096) :
    Meets (Builtin.«tuple.__new__» ⟨[.type "tuple", .ref r], []⟩)
      (fun A R s => A.handled = none ∧ IsRange s.heap r a b c t u v ∧ ∀ (h' : Heap) tk (acc' : Array Value), Kp s.heap h' → ItemsOf (fun i v => ∃ t, v = .int (a + i * c) t) acc' n → R (.ok (.ret (.ref h'.objs.size))) { s with heap := h'.push { cls := .type "tuple", data := .seq acc' }, toks := tk }) :=
  .of_wp fun prog w A R s h => by
    obtain ⟨hp, g, d, tk, os⟩ := s; obtain ⟨hh, ht, h⟩ := h
    have hsub := sub_tuple_self
    have hinit := init_tuple_lookup
    have hmh := madeHere_tuple
    have hT : Shared.TypeIs ⟨hp, g, d, tk, os⟩ (.ref r) "range" := ⟨_, ht, rfl⟩
    wp_walk using wpAny_loadPart' ht, wpAny_typeOf hT, collect_range (A := A.in1) hh ht hsmall hn (by omega)
    intro h' tk' acc' hk hi
    show wpAny _ _ (Builtin.Tuple.tupleExact acc'.toList.toArray >>= fun v => ret v) _ _ _
    unfold Builtin.Tuple.tupleExact
    have hz : acc'.size ≤ sizeLine := by rw [hi.1]; exact line_4096 hlen
    refine wpAny_bind (wpAny_newObj_type ?_ (by show acc'.toList.toArray.size ≤ sizeLine; simpa using hz))
    refine wpAny_pure ⟨_, rfl, ?_⟩
    have e : acc'.toList.toArray = acc' := by simp
    rw [e]
    exact h h' _ _ hk hi
end Mine.Internal
namespace Mine.Internal
open PySem PySem.W PyProof.Rows
theorem insI_c {x y : Int} {r : List Int} : insI x (y :: r) = if x ≤ y then x :: y :: r else y :: insI x r := rfl
theorem insI_perm (x : Int) : ∀ l, (insI x l).Perm (x :: l)
  | [] => .refl _
  | y :: r => by
    simp only [insI_c]
    split
    · exact .refl _
    · exact ((insI_perm x r).cons y).trans (.swap _ _ _)
theorem sortI_perm : ∀ l, (sortI l).Perm l
  | [] => .refl _
  | x :: r => (insI_perm x _).trans ((sortI_perm r).cons x)
theorem insI_sorted (x : Int) : ∀ l, l.Pairwise (· ≤ ·) → (insI x l).Pairwise (· ≤ ·)
  | [] => @fun _ => List.pairwise_singleton ..
  | y :: r => @fun h => by
    simp only [insI_c]
    rw [List.pairwise_cons] at h
    split
    · rename_i q
      refine List.pairwise_cons.mpr ⟨fun z hz => ?_, List.pairwise_cons.mpr h⟩
      rcases List.mem_cons.mp hz with rfl | hz
      · exact q
      · exact Int.le_trans q (h.1 z hz)
    · rename_i q
      refine List.pairwise_cons.mpr ⟨fun z hz => ?_, insI_sorted x r h.2⟩
      rcases List.mem_cons.mp ((insI_perm x r).mem_iff.mp hz) with rfl | hz
      · lia
      · exact h.1 z hz
theorem sortI_sorted : ∀ l, (sortI l).Pairwise (· ≤ ·)
  | [] => by simp [sortI]
  | x :: r => insI_sorted x _ (sortI_sorted r)
theorem sorted_unique {l r : List Int} (p : l.Perm r) (a : l.Pairwise (· ≤ ·)) (b : r.Pairwise (· ≤ ·)) : l = r :=
  p.eq_of_pairwise (fun x y _ _ h1 h2 => Int.le_antisymm h1 h2) a b
theorem ints_of_rep {h : Heap} {O : Addr → Prop} {is : List Int} : ∀ {vs : List Value}, RepL h O (is.map .int) vs → IntsAre vs is := by
  induction is with
  | nil => exact fun r => RepL.out0 r .nil
  | cons i is ih => exact fun r => RepL.out r fun v l a b => (show ∃ t, v = .int i t from a).elim fun t e => Eq.symm e ▸ .cons i t (ih b)
theorem ints_rep {h : Heap} {O : Addr → Prop} {is : List Int} {vs : List Value} (k : IntsAre vs is) : RepL h O (is.map .int) vs := by
  induction k with
  | nil => rfl
  | cons n t _ ih => exact ⟨_, _, rfl, ⟨t, rfl⟩, ih⟩
theorem ints_len {is : List Int} {vs : List Value} (k : IntsAre vs is) : vs.length = is.length := by
  induction k with
  | nil => rfl
  | cons n t _ ih => simp [ih]
section
variable {prog : Program} {w : World} {A : Around} {s : Shared} {O : Addr → Prop}
theorem p_sorted {v : Value} {ns : List Int} (l : Live s.heap O) (h64 : ns.length < 64)
    (hc : ∀ (Q : List Value → Shared → Prop) (E : Value → Shared → Prop), (∀ vs h' tk, Kp s.heap h' → (∃ ms, IntsAre vs ms ∧ ms.Perm ns) → Q vs { s with heap := h', toks := tk }) → wpAny (model prog w) A.in1 (collect v) Q E s) :
    POp (model prog w) A (call (.builtin "sorted") [v]) s (fun h r => Rep h O (.lst ((sortI ns).map .int)) r) := fun Q E k => by
  refine Calls.call_function_entry kind_sorted plain_sorted entry_sorted (args_sorted1 _) ?_
  unfold Builtin.«sorted»
  refine wpAny_bind (m := checkCount "sorted" 1 1 _) (wpAny_pure ?_)
  refine wpAny_bind (hc _ _ fun vs h' tk kp ⟨ms, hi, hp⟩ => ?_)
  have hl4 : vs.length < 64 := by simp only [ints_len hi, hp.length_eq]; exact h64
  refine wpAny_bind (wpAny_newList (hsz := line_4096 (by lia)) ?_)
  have hoL : (h'.push (seqObj "list" vs.toArray 0)).get? h'.objs.size = some (seqObj "list" vs.toArray 0) := Heap.get?_push_size _ rfl
  show wpAny _ _ _ _ _ { s with heap := h'.push (seqObj "list" vs.toArray 0), toks := tk }
  refine wpAny_bind (wpAny_holding (wpAny_call_entry slot_list_sort ⟨_, hoL, rfl⟩ entry_list_sort (list_sort_tree hoL hi hl4 fun out ns' a1 a2 a3 => ⟨_, rfl, ?_⟩) (args_list_sort _)))
  refine wpAny_pure ⟨_, rfl, ?_⟩
  have en : ns' = sortI ns := sorted_unique ((a2.trans hp).trans (sortI_perm ns).symm) a3 (sortI_sorted ns)
  subst en
  have kall : Kp s.heap (sortedHeap (h'.push (seqObj "list" vs.toArray 0)) h'.objs.size vs out) := fun b o e => by
    have hb := Heap.lt_size (kp b o e)
    rw [sortedHeap_old (Nat.ne_of_lt hb) (by rw [size_push']; exact Nat.lt_succ_of_lt hb)]
    exact Heap.get?_push_of_some _ (kp b o e)
  obtain ⟨e, he⟩ := sortedHeap_at (out := out) hoL
  have hlen : out.toList.length = (sortI ns).length := ints_len a1
  refine k _ _ _ kall ⟨_, out.toList, e, rfl, ?_, by rw [he], ?_, ints_rep a1⟩
  · refine l.fresh ?_
    induction q : s.heap.get? h'.objs.size with
    | none => rfl
    | some o => exact absurd (Heap.lt_size (kp _ _ q)) (Nat.lt_irrefl _)
  · show out.toList.length ≤ 4096
    simp only [hlen, (sortI_perm ns).length_eq]; lia
theorem itemsOf_rep {x : V} {v : Value} {xs : List V} (ra : RepA s.heap O x v) (e : itemsOf x = some xs) :
    (∃ a its n, v = .ref a ∧ (s.heap.get? a = some (tupObj its n) ∨ s.heap.get? a = some (listObj its n)) ∧ its.length ≤ 4096 ∧ RepL s.heap O xs its) ∨
    (∃ r a b st t u z, v = .ref r ∧ IsRange s.heap r a b st t u z ∧ (-4096 ≤ a ∧ a ≤ 4096 ∧ -4096 ≤ b ∧ b ≤ 4096 ∧ (st = 1 ∨ st = -1)) ∧ xs = rngItems a b st) := by
  refine hide fun G hG => ?_
  revert ra
  refine itemsOf_e e (fun ra => ?_) (fun ra => ?_) fun p q st ei ra => ?_
  · obtain ⟨a, its, n, ev, _, g, hl, r⟩ := ra; exact hG (.inl ⟨a, its, n, ev, .inl g, hl, r⟩)
  · obtain ⟨a, its, n, ev, g, hl, r⟩ := ra; exact hG (.inl ⟨a, its, n, ev, .inr g, hl, r⟩)
  · obtain ⟨r, t, u, z, ev, _, ir, hb⟩ := ra; exact hG (.inr ⟨r, _, _, _, t, u, z, ev, ir, hb, ei⟩)
theorem p_collect {x : V} {v : Value} {xs : List V} {Q : List Value → Shared → Prop} {E : Value → Shared → Prop} (hh : A.handled = none) (ra : RepA s.heap O x v) (e : itemsOf x = some xs)
    (k : ∀ vs h' tk, Kp s.heap h' → RepL h' O xs vs → Q vs { s with heap := h', toks := tk }) : wpAny (model prog w) A (collect v) Q E s := by
  rcases itemsOf_rep ra e with ⟨a, its, n, rfl, g, hl, r⟩ | ⟨a, p, q, st, t, u, z, rfl, ir, hb, rfl⟩
  · have hz : its.toArray.size ≤ sizeLine := by rw [List.size_toArray]; exact line_4096 hl
    rcases g with g | g
    · refine wpAny_collect_seq (hsz := hz) a (.inr rfl) g rfl rfl fun h' kp => ?_
      rw [List.toList_toArray]; exact k its h' s.toks kp (r.kp kp)
    · refine wpAny_collect_seq (hsz := hz) a (.inl rfl) g rfl rfl fun h' kp => ?_
      rw [List.toList_toArray]; exact k its h' s.toks kp (r.kp kp)
  · refine collect_range hh ir (small_rng hb) (rangeSize_rngN hb.2.2.2.2) (by have := rngN_le hb; lia) fun h' tk acc kp i => ?_
    exact k _ h' tk kp (repL_rng i)
theorem new_kp {h h' : Heap} {b : Addr} (l : Live h O) (kp : Kp h h') (n : h'.get? b = none) : ¬ O b := by
  refine l.fresh ?_
  induction q : h.get? b with
  | none => rfl
  | some o => have := kp _ _ q; rw [n] at this; exact nS this
theorem p_tuple {x : V} {v : Value} {xs : List V} (hh : A.handled = none) (l : Live s.heap O) (ra : RepA s.heap O x v) (e : itemsOf x = some xs) (hx : xs.length ≤ 4096) :
    POp (model prog w) A (call (.type "tuple") [v]) s (fun h r => Rep h O (.tup xs) r) := fun Q E k => by
  revert ra
  refine itemsOf_e e (fun ra => ?_) (fun ra => ?_) fun p q st ei ra => ?_
  · obtain ⟨a, its, n, rfl, na, g, hl, r⟩ := ra
    exact call_tuple_same (isTup_of g) (k _ s.heap s.toks (Kp.refl _) ⟨a, its, n, rfl, na, g, hl, r⟩)
  · obtain ⟨a, its, n, rfl, g, hl, r⟩ := ra
    refine call_tuple_list (isList_of g) (fun h' kp => ?_) (by rw [List.size_toArray]; exact line_4096 hl)
    refine k _ _ s.toks (Kp.trans kp (Kp.push _ _)) ⟨_, its, 0, rfl, new_kp l kp (size_none _), Heap.get?_push_size _ rfl, hl, r.kp (Kp.trans kp (Kp.push _ _))⟩
  · subst ei; obtain ⟨a, t, u, z, rfl, na, ir, hb⟩ := ra
    have hn : rngN p q st ≤ 4096 := by simpa [rngItems] using hx
    refine callType_new F.called_tuple (by decide) (F.typeCall_tuple_1 _) (F.newCall_tuple_1 _) (fun obj => F.args_object_init_2 obj _) F.entry_tuple_new
      (meets_tuple_new_range a _ _ _ t u z _ (small_rng hb) (rangeSize_rngN hb.2.2.2.2) hn) ⟨by simpa using hh, ir, fun h' tk acc kp i => ⟨⟨_, Heap.get?_push_size _ rfl, rfl⟩, ?_⟩⟩
    refine k _ _ tk (Kp.trans kp (Kp.push _ _)) ⟨_, acc.toList, 0, rfl, new_kp l kp (size_none _), by rw [Array.toArray_toList]; exact Heap.get?_push_size _ rfl, by simp only [Array.length_toList, i.1]; exact hn, repL_rng i⟩
theorem p_list {x : V} {v : Value} {xs : List V} (hh : A.handled = none) (l : Live s.heap O) (ra : RepA s.heap O x v) (e : itemsOf x = some xs) (hx : xs.length ≤ 4096) :
    POp (model prog w) A (call (.type "list") [v]) s (fun h r => Rep h O (.lst xs) r) := fun Q E k => by
  rcases itemsOf_rep ra e with ⟨a, its, n, rfl, g, hl, r⟩ | ⟨a, p, q, st, t, u, z, rfl, ir, hb, rfl⟩
  · have hz : its.toArray.size ≤ sizeLine := by rw [List.size_toArray]; exact line_4096 hl
    rcases g with g | g
    · exact call_list_seq (hsz := hz) a (.inr rfl) g rfl rfl fun h' c' kp gx => k _ h' s.toks kp ⟨_, its, c', rfl, l.fresh (size_none _), gx, hl, r.kp kp⟩
    · exact call_list_seq (hsz := hz) a (.inl rfl) g rfl rfl fun h' c' kp gx => k _ h' s.toks kp ⟨_, its, c', rfl, l.fresh (size_none _), gx, hl, r.kp kp⟩
  · have hn : rngN p q st ≤ 4096 := by simpa [rngItems] using hx
    exact call_list_range hh ir (small_rng hb) (rangeSize_rngN hb.2.2.2.2) (by lia) fun h' tk acc c' kp gx i =>
      k _ h' tk kp ⟨_, acc.toList, c', rfl, l.fresh (size_none _), by (show h'.get? s.heap.objs.size = some (listObj acc.toList c')); simp only [listObj, Array.toArray_toList]; exact gx, by simp only [Array.length_toList, i.1]; exact hn, repL_rng i⟩
theorem p_range {h : Heap} {a b st : Int} {t u z : Tok} (l : Live s.heap O) (hb : -4096 ≤ a ∧ a ≤ 4096 ∧ -4096 ≤ b ∧ b ≤ 4096 ∧ (st = 1 ∨ st = -1)) :
    Rep (s.heap.push { cls := .type "range", data := .fields #[.int a t, .int b u, .int st z] }) O (.rng a b st) (.ref s.heap.objs.size) :=
  ⟨_, t, u, z, rfl, l.fresh (size_none _), Heap.get?_push_size _ rfl, hb⟩
theorem okR_e {a : Int} (h : okR a = true) : -4096 ≤ a ∧ a ≤ 4096 := by
  unfold okR at h
  rw [Bool.and_eq_true, decide_eq_true_eq, decide_eq_true_eq] at h
  exact ⟨Int.le_trans (by decide) h.1, Int.le_trans h.2 (by decide)⟩
theorem p_blt {b : Blt} {xs : List V} {vs : List Value} {z : V} (hh : A.handled = none) (l : Live s.heap O) (ra : RepAs s.heap O xs vs) (e : bltV b xs = some z) :
    POp (model prog w) A (call (bltVal b) vs) s (fun h r => Rep h O z r) := by
  revert ra
  induction b with
  | abs =>
    refine o1_e e fun v e => oInt_e e fun i e => oS_e e ?_
    refine fun ra => RepAs.out1 ra fun _ r => r.elim fun t et Q E k => ?_
    subst et
    exact call_abs_int fun u tk => k _ s.heap tk (Kp.refl _) ⟨u, rfl⟩
  | len =>
    refine o1_e e fun v e => oSeq_e e (fun ws e => oS_e e ?_) (fun ws e => oS_e e ?_)
    · refine fun ra => RepAs.out1 ra fun _ r Q E k => ?_
      obtain ⟨a, its, n, rfl, _, g, hl, r⟩ := r
      refine PyProof.Rows.len_tuple (isTup_of g) (by rw [List.size_toArray]; lia) (k _ s.heap _ (Kp.refl _) ⟨s.toks + 1, ?_⟩)
      rw [List.size_toArray, r.length]
    · refine fun ra => RepAs.out1 ra fun _ r Q E k => ?_
      obtain ⟨a, its, n, rfl, g, hl, r⟩ := r
      refine Calls.call_len_list (isList_of g) (by rw [List.size_toArray]; lia) (k _ s.heap _ (Kp.refl _) ⟨s.toks + 1, ?_⟩)
      rw [List.size_toArray, r.length]
  | min =>
    refine o2_e e fun v w e => oInt_e e fun i e => oInt_e e fun j e => oS_e e ?_
    refine fun ra => RepAs.out ra fun _ _ r1 r2 => RepAs.out1 r2 fun _ r2 Q E k => ?_
    obtain ⟨t, rfl⟩ := r1
    obtain ⟨u, rfl⟩ := r2
    refine min_two_ints hh fun h' tk kp => k _ h' tk kp ?_
    split <;> exact ⟨_, rfl⟩
  | max =>
    refine o2_e e fun v w e => oInt_e e fun i e => oInt_e e fun j e => oS_e e ?_
    refine fun ra => RepAs.out ra fun _ _ r1 r2 => RepAs.out1 r2 fun _ r2 Q E k => ?_
    obtain ⟨t, rfl⟩ := r1
    obtain ⟨u, rfl⟩ := r2
    refine max_two_ints hh fun h' tk kp => k _ h' tk kp ?_
    split <;> exact ⟨_, rfl⟩
  | tuple =>
    refine o1_e e fun v e => oB_e e fun ys e1 e => oIf_e e fun hx e => oS_e e ?_
    refine fun ra => RepAs.out1 ra fun _ r => ?_
    exact p_tuple hh l r e1 hx
  | list =>
    refine o1_e e fun v e => oB_e e fun ys e1 e => oIf_e e fun hx e => oS_e e ?_
    refine fun ra => RepAs.out1 ra fun _ r => ?_
    exact p_list hh l r e1 hx
  | range =>
    refine o123_e e (fun v e => oInt_e e fun i e => oIf_e e fun hb e => oS_e e ?_) (fun v w e => oInt_e e fun i e => oInt_e e fun j e => oIf_e e fun hb e => oS_e e ?_) (fun v w u e => oInt_e e fun i e => oInt_e e fun j e => oInt_e e fun m e => oIf_e e fun hb e => oS_e e ?_)
    · refine fun ra => RepAs.out1 ra fun _ r Q E k => ?_
      obtain ⟨t, rfl⟩ := r
      have hb := okR_e hb
      exact call_range_1 (k _ _ _ (Kp.push _ _) (p_range (h := s.heap) l ⟨by decide, by decide, hb.1, hb.2, .inl rfl⟩))
    · refine fun ra => RepAs.out ra fun _ _ r1 r2 => RepAs.out1 r2 fun _ r2 Q E k => ?_
      obtain ⟨t, rfl⟩ := r1
      obtain ⟨u, rfl⟩ := r2
      rw [Bool.and_eq_true] at hb
      have h1 := okR_e hb.1
      have h2 := okR_e hb.2
      exact call_range_2 (k _ _ _ (Kp.push _ _) (p_range (h := s.heap) l ⟨h1.1, h1.2, h2.1, h2.2, .inl rfl⟩))
    · refine fun ra => RepAs.out ra fun _ _ r1 r2 => RepAs.out r2 fun _ _ r2 r3 => RepAs.out1 r3 fun _ r3 Q E k => ?_
      obtain ⟨t, rfl⟩ := r1
      obtain ⟨u, rfl⟩ := r2
      obtain ⟨u', rfl⟩ := r3
      rw [Bool.and_eq_true, Bool.and_eq_true, decide_eq_true_eq] at hb
      obtain ⟨⟨rfl, hb1⟩, hb2⟩ := hb
      have h1 := okR_e hb1
      have h2 := okR_e hb2
      exact call_range_3 (by decide) (k _ _ s.toks (Kp.push _ _) (p_range (h := s.heap) l ⟨h1.1, h1.2, h2.1, h2.2, .inr rfl⟩))
        (.inl (PyProof.noPylong_of_log2 (by decide +kernel)))
  | sorted =>
    refine o1_e e fun v e => oB_e e fun ys e1 e => oB_e e fun is e3 e => oIf_e e fun h64 e => oS_e e ?_
    refine fun ra => RepAs.out1 ra fun _ r => ?_
    refine p_sorted l h64 (fun Q E k => p_collect (A := A.in1) (by simpa using hh) r e1 fun vs h' tk kp rl => k vs h' tk kp ⟨is, ?_, .refl _⟩)
    rw [intsOf_eq e3] at rl
    exact ints_of_rep rl
end
end Mine.Internal
namespace Mine.Internal
open PySem PySem.W PyProof.Rows
theorem atIdx_some {xs : List V} {i : Int} {x : V} (e : atIdx xs i = some x) : ∃ j : Nat, seqIndex? i xs.length = some j ∧ xs[j]? = some x ∧ -(xs.length : Int) ≤ i ∧ i < xs.length ∧ (0 ≤ i → j = i.toNat) ∧ (i < 0 → j = (i + xs.length).toNat) := by
  unfold atIdx at e
  split at e
  · rename_i h0
    obtain ⟨hl, _⟩ := List.getElem?_eq_some_iff.mp e
    exact ⟨i.toNat, seqIndex_of h0 (by lia), e, by lia, by lia, fun _ => rfl, fun q => by lia⟩
  · rename_i h0
    split at e
    · rename_i h1
      exact ⟨(i + xs.length).toNat, MeetsSeq.seqIndex_neg (by lia) h1, e, by lia, by lia, fun q => absurd q h0, fun _ => rfl⟩
    · injection e
section
variable {prog : Program} {w : World} {A : Around} {s : Shared} {O : Addr → Prop}
theorem p_idx_tup {xs : List V} {x : V} {v : Value} {i : Int} {t : Tok} (ra : RepA s.heap O (.tup xs) v) (e : atIdx xs i = some x) : POp (model prog w) A (getItem v (.int i t)) s (fun h r => Rep h O x r) := fun Q E k => by
  obtain ⟨a, its, n, rfl, _, g, hl, r⟩ := ra
  obtain ⟨j, h1, h2, h3, h4, _⟩ := atIdx_some e
  obtain ⟨y, hy, ry⟩ := r.get' h2
  have hn := r.length
  exact getItem_tuple (isTup_of g) (by lia) (by lia) (by rw [List.size_toArray, hn]; exact h1) (by simpa using hy) (k _ s.heap s.toks (Kp.refl _) ry)
theorem p_idx_lst {xs : List V} {x : V} {v : Value} {i : Int} {t : Tok} (ra : RepA s.heap O (.lst xs) v) (e : atIdx xs i = some x) : POp (model prog w) A (getItem v (.int i t)) s (fun h r => Rep h O x r) := fun Q E k => by
  obtain ⟨a, its, n, rfl, g, hl, r⟩ := ra
  obtain ⟨j, h1, h2, h3, h4, h5, h6⟩ := atIdx_some e
  obtain ⟨y, hy, ry⟩ := r.get' h2
  have hn := r.length
  by_cases h0 : 0 ≤ i
  · exact wpAny_getItem_list (isList_of g) h0 (by lia) (by rw [← h5 h0]; simpa using hy) (k _ s.heap s.toks (Kp.refl _) ry)
  · exact wpAny_getItem_list_neg (isList_of g) (by lia) (by rw [List.size_toArray, hn]; omega) (by lia) (by rw [List.size_toArray, hn, ← h6 (by lia)]; simpa using hy) (k _ s.heap s.toks (Kp.refl _) ry)
theorem pick_sliceL {α : Type} (l : List α) (a b : Nat) : (l.drop (min a l.length)).take (min b l.length - min a l.length) = (l.take b).drop a := by
  simp only [kmk_drop_min, List.drop_take]
  by_cases h : b ≤ l.length
  · rw [Nat.min_eq_left h]
    by_cases q : a ≤ l.length
    · rw [Nat.min_eq_left q]
    · rw [Nat.min_eq_right (by lia), List.drop_of_length_le (by lia)]; simp
  · rw [Nat.min_eq_right (by lia)]
    rw [List.take_of_length_le (l := l.drop a) (by rw [List.length_drop]; lia), List.take_of_length_le (by rw [List.length_drop]; lia)]
noncomputable def cut {α : Type} (lo hi : Option Int) (l : List α) : List α := (l.take ((hi.map Int.toNat).getD l.length)).drop ((lo.map Int.toNat).getD 0)
noncomputable def nn : Option Int → Prop
  | none => True
  | some i => 0 ≤ i
theorem pick_cut (l : List Value) {lo hi : Option Int} (h1 : nn lo) (h2 : nn hi) : kms_pick l lo hi = cut lo hi l := by
  unfold kms_pick cut
  have e1 : kms_lo lo l.length = min ((lo.map Int.toNat).getD 0) l.length := by
    induction lo with
    | none => simp [kms_lo]
    | some x => simp only [kms_lo, nn] at h1 ⊢; rw [if_neg (by lia)]; rfl
  have e2 : kms_hi hi l.length = min ((hi.map Int.toNat).getD l.length) l.length := by
    induction hi with
    | none => simp [kms_hi]
    | some x => simp only [kms_hi, nn] at h2 ⊢; rw [if_neg (by lia)]; rfl
  simp only [e1, e2, pick_sliceL]
theorem sliceL_cut {l r : List V} {lo hi : Option Int} (e : sliceL l lo hi = some r) : r = cut lo hi l ∧ nn lo ∧ nn hi := by
  unfold sliceL at e
  split at e
  · split at e
    · rename_i h; obtain rfl := Option.some.inj e; exact ⟨rfl, h⟩
    · injection e
  · split at e
    · rename_i h; obtain rfl := Option.some.inj e; simp [cut, nn, h]
    · injection e
  · split at e
    · rename_i h; obtain rfl := Option.some.inj e; simp [cut, nn, h]
    · injection e
  · injection e
theorem RepL.cut {h : Heap} {xs : List V} {vs : List Value} {lo hi : Option Int} (r : RepL h O xs vs) : RepL h O (cut lo hi xs) (cut lo hi vs) := by
  unfold Mine.Internal.cut
  rw [r.length]
  exact (r.take _).drop _
theorem cut_len {α : Type} {lo hi : Option Int} (l : List α) : (cut lo hi l).length ≤ l.length := by
  unfold cut; simp; lia
theorem p_slice_lst {xs : List V} {z : V} {v vl vu : Value} {sl : Addr} {lo hi : Option Int} (l : Live s.heap O) (hs : s.heap.IsSliceOf sl vl vu .none) (pl : IsPart vl lo) (pu : IsPart vu hi) (ra : RepA s.heap O (.lst xs) v) (e : slcV (.lst xs) lo hi = some z) :
    POp (model prog w) A (getItem v (.ref sl)) s (fun h r => Rep h O z r) := fun Q E k => by
  obtain ⟨a, its, n, rfl, g, hl, r⟩ := ra
  obtain ⟨ys, e1, rfl⟩ := Option.map_eq_some_iff.mp e
  obtain ⟨rfl, h1, h2⟩ := sliceL_cut e1
  refine wpAny_getItem_list_slice (isList_of g) hs pl pu .none (by decide) ?_ (by rw [List.size_toArray]; exact line_4096 hl)
  rw [kms_pick_eq, List.toList_toArray, pick_cut _ h1 h2]
  exact k _ _ s.toks (Kp.push _ _) (new_lst l (Nat.le_trans (cut_len _) hl) r.cut)
theorem adjust_cut (lo hi : Option Int) (n : Nat) (h1 : nn lo) (h2 : nn hi) : Builtin.Slice.sliceAdjust lo hi 1 (n : Int) = (((min ((lo.map Int.toNat).getD 0) n : Nat) : Int), ((min ((hi.map Int.toNat).getD n) n : Nat) : Int)) := by
  unfold Builtin.Slice.sliceAdjust
  have h : ¬ ((1 : Int) < 0) := by lia
  dsimp only [h, if_false]
  refine Prod.ext ?_ ?_
  · cases lo with
    | none => simp
    | some x => simp only [nn] at h1; simp only [if_neg (show ¬ x < 0 by lia), Option.map_some, Option.getD_some]; lia
  · cases hi with
    | none => simp
    | some x => simp only [nn] at h2; simp only [if_neg (show ¬ x < 0 by lia), Option.map_some, Option.getD_some]; lia
theorem places_nat (a b : Nat) : Builtin.Slice.slicePlaces (a : Int) (b : Int) 1 = b - a := by
  unfold Builtin.Slice.slicePlaces
  have h1 : (1 : Int) > 0 := by lia
  simp only [h1, if_true, Int.ediv_one]
  split <;> lia
theorem part_index {v : Value} {p : Option Int} {E : Value → Shared → Prop} {Q : Option Int → Shared → Prop} (h : IsPart v p) (k : Q p s) : wpAny (model prog w) A (Builtin.Slice.slicePartIndex v) Q E s := by
  induction h with
  | none => exact slicePart_none k
  | int i u => exact slicePart_int k
theorem sliceApplied_cut {sl : Addr} {vl vu : Value} {lo hi : Option Int} {n : Nat} {E : Value → Shared → Prop} {Q : Int × Int × Nat → Shared → Prop} (hs : s.heap.IsSliceOf sl vl vu .none) (pl : IsPart vl lo) (pu : IsPart vu hi) (h1 : nn lo) (h2 : nn hi)
    (h : Q (((min ((lo.map Int.toNat).getD 0) n : Nat) : Int), 1, min ((hi.map Int.toNat).getD n) n - min ((lo.map Int.toNat).getD 0) n) s) :
    wpAny (model prog w) A (Builtin.Slice.sliceApplied (.ref sl) (pure (n : Int))) Q E s := by
  refine hide fun G hG => ?_
  obtain ⟨os, hos, hcs, hds⟩ := id hs
  refine hG ?_
  unfold Builtin.Slice.sliceApplied Builtin.Slice.sliceFields
  refine wpAny_bind (wpAny_bind (wpAny_field hos hds (x := vl) rfl (wpAny_bind (wpAny_field hos hds (x := vu) rfl (wpAny_bind (wpAny_field hos hds (x := .none) rfl (wpAny_pure ?_)))))))
  refine wpAny_bind (slicePart_none ?_)
  rw [if_neg (by decide)]
  refine wpAny_bind (part_index pl (wpAny_bind (part_index pu (wpAny_bind (wpAny_pure ?_)))))
  show wpAny _ _ (match Builtin.Slice.sliceAdjust lo hi 1 (n : Int) with | (lo, hi) => pure (lo, (1 : Int), Builtin.Slice.slicePlaces lo hi 1)) _ _ s
  rw [adjust_cut lo hi n h1 h2]
  dsimp only
  rw [places_nat]
  exact wpAny_pure h
theorem pick_nat (xs : List Value) (a k : Nat) : ((List.range k).filterMap fun (j : Nat) => xs.toArray[((a : Int) + (j : Int) * 1).toNat]?).toArray = ((xs.drop a).take k).toArray := by
  have e : (fun (j : Nat) => xs.toArray[((a : Int) + (j : Int) * 1).toNat]?) = fun j => xs.toArray[a + j]? := by
    funext j
    have : ((a : Int) + (j : Int) * 1).toNat = a + j := by lia
    rw [this]
  rw [e]
  have := pick_run xs.toArray a k
  rw [List.filterMap_map] at this
  have e2 : ((fun x => xs.toArray[x]?) ∘ fun x => a + x) = fun k => xs.toArray[a + k]? := rfl
  rw [e2] at this
  rw [this]
theorem p_slice_tup {xs : List V} {z : V} {v vl vu : Value} {sl : Addr} {lo hi : Option Int} (l : Live s.heap O) (hs : s.heap.IsSliceOf sl vl vu .none) (pl : IsPart vl lo) (pu : IsPart vu hi) (ra : RepA s.heap O (.tup xs) v) (e : slcV (.tup xs) lo hi = some z) :
    POp (model prog w) A (getItem v (.ref sl)) s (fun h r => Rep h O z r) := fun Q E k => by
  obtain ⟨t, its, n, rfl, na, g, hl, r⟩ := ra
  obtain ⟨ys, e1, rfl⟩ := Option.map_eq_some_iff.mp e
  obtain ⟨rfl, h1, h2⟩ := sliceL_cut e1
  have ht := isTup_of g
  obtain ⟨os, hos, hcs, hds⟩ := id hs
  have hTs : s.TypeIs (.ref sl) "slice" := ⟨os, hos, hcs⟩
  unfold getItem
  try with_reducible refine wpAny_holding ?_
  first | refine wpAny_bind (wpAny_pure ?_) | skip
  refine wpAny_bind (wpAny_sequenceKey ht.typeIs (by decide) ?_)
  refine wpAny_bind (wpAny_callSpecial?_slot (name := Str.ofString "__getitem__") ht.typeIs slot_tuple_getitem
    (wpAny_call_entry slot_tuple_getitem ht.typeIs entry_tuple_getitem ?_ (args_tuple_getitem _ _)))
  show wpAny _ _ (Builtin.Tuple.tupleItemsOf (.ref t) >>= _) _ _ s
  refine wpAny_bind (tupleItemsOf_ ht ?_)
  refine wpAny_bind (wpAny_typeOf hTs ?_)
  rw [if_pos (by decide)]
  refine wpAny_bind (sliceApplied_cut (n := its.toArray.size) hs pl pu h1 h2 ?_)
  generalize ha : min ((lo.map Int.toNat).getD 0) its.toArray.size = a
  generalize hk : min ((hi.map Int.toNat).getD its.toArray.size) its.toArray.size - a = cnt
  have hp := pick_sliceL its ((lo.map Int.toNat).getD 0) ((hi.map Int.toNat).getD its.toArray.size)
  rw [List.size_toArray] at ha hk hp
  rw [ha, hk] at hp
  have hcut : Mine.Internal.cut lo hi its = (its.drop a).take cnt := hp.symm
  show wpAny _ _ (if ((a : Int) == 0 && (1 : Int) == 1 && cnt == its.toArray.size) = true then _ else _) _ _ s
  by_cases hw : ((a : Int) == 0 && (1 : Int) == 1 && cnt == its.toArray.size) = true
  · simp only [if_pos hw]
    simp at hw
    obtain ⟨rfl, rfl⟩ := hw
    have hall : Mine.Internal.cut lo hi its = its := by rw [hcut]; simp
    have hx : Mine.Internal.cut lo hi xs = xs := by
      have q := r.cut (lo := lo) (hi := hi)
      have l1 := q.length
      rw [hall, r.length] at l1
      have : ∀ (l : List V), (Mine.Internal.cut lo hi l).length = l.length → Mine.Internal.cut lo hi l = l := fun l hl => by
        unfold Mine.Internal.cut at hl ⊢
        simp at hl
        by_cases z : (lo.map Int.toNat).getD 0 = 0
        · rw [z, List.drop_zero]; exact List.take_of_length_le (by lia)
        · have : l = [] := List.length_eq_zero_iff.mp (by lia)
          subst this; simp
      exact this xs l1.symm
    have hR : Rep s.heap O (.tup (Mine.Internal.cut lo hi xs)) (.ref t) := by rw [hx]; exact ⟨t, its, n, rfl, na, g, hl, r⟩
    have := k (.ref t) s.heap s.toks (Kp.refl _) hR
    wp_walk
    try exact ⟨_, rfl, wpAny_pure this⟩
    done
  · rw [if_neg hw, pick_nat]
    have hl2 : ((its.drop a).take cnt).length ≤ 4096 := by simp; omega
    have h : Q (.ref s.heap.objs.size) { s with heap := s.heap.push (tupObj ((its.drop a).take cnt) 0) } := by
      refine k _ _ s.toks (Kp.push _ _) ?_
      rw [← hcut] at hl2 ⊢
      exact new_tup l hl2 r.cut
    have hdrop : sizeOk (.seq ((its.drop a).take cnt).toArray) := by
      show ((its.drop a).take cnt).toArray.size ≤ sizeLine
      rw [List.size_toArray]; exact line_4096 hl2
    first
      | exact wpAny_bind (m := Builtin.Tuple.tupleExact _) (wpAny_newObj_type (wpAny_pure ⟨_, rfl, wpAny_pure h⟩) hdrop)
      | exact wpAny_bind (m := Builtin.Tuple.tupleExact _) (wpAny_newObj_type (wpAny_bind (wpAny_pure (wpAny_pure ⟨_, rfl, wpAny_pure h⟩))) hdrop)
      | exact wpAny_bind (wpAny_bind (m := Builtin.Tuple.tupleExact _) (wpAny_newObj_type (wpAny_pure (wpAny_pure ⟨_, rfl, wpAny_pure h⟩)) hdrop))
      | exact wpAny_bind (wpAny_bind (m := Builtin.Tuple.tupleExact _) (wpAny_newObj_type (wpAny_pure ⟨_, rfl, wpAny_pure h⟩) hdrop))
end
end Mine.Internal
namespace Mine.Internal
open PySem PySem.W PyProof.Rows
theorem cf {α : Type _} {b : Bool} {x y z : α} (e : x = cond b y z) (h : b = false) : x = z := e.trans (congrArg (fun b => cond b y z) h)
theorem cfn {α : Type _} {b : Bool} {x y z : α} (e : x = cond b y z) (h : (!b) = true) : x = z := cf e ((Bool.not_eq_true' b).mp h)
abbrev NoE : Value → Shared → Prop := fun _ _ => False
structure St (c : Cx) (O X F : Addr → Prop) (ad : AdT) (hp : Hp) (loc : Loc) (sc : Sc) (env : Env) (s : Shared) : Prop where
  sr : SR c s O X ad hp
  en : EnvOK c s.heap O F sc env
  lo : LocRel c s.heap O X ad env loc
noncomputable def PE (c : Cx) (X : Addr → Prop) (s : Shared) (O : Addr → Prop) (ad : AdT) (rv : RV) (hp' : Hp) (Q : Value → Shared → Prop) : Prop :=
  ∀ v s' O' ad', SR c s' O' X ad' hp' → Step s.heap O s'.heap O' → Prefix ad ad' → RepRV s'.heap (U O' X) ad' rv v → Q v s'
noncomputable def PEs (c : Cx) (X : Addr → Prop) (s : Shared) (O : Addr → Prop) (ad : AdT) (rvs : List RV) (hp' : Hp) (Q : List Value → Shared → Prop) : Prop :=
  ∀ vs s' O' ad', SR c s' O' X ad' hp' → Step s.heap O s'.heap O' → Prefix ad ad' → RepRVs s'.heap (U O' X) ad' rvs vs → Q vs s'
noncomputable def PB (c : Cx) (X : Addr → Prop) (s : Shared) (O : Addr → Prop) (ad : AdT) (b : Bool) (hp' : Hp) (Q : Bool → Shared → Prop) : Prop :=
  ∀ s' O' ad', SR c s' O' X ad' hp' → Step s.heap O s'.heap O' → Prefix ad ad' → Q b s'
noncomputable def OkE (c : Cx) (A : Around) (sc : Sc) (X F : Addr → Prop) (env : Env) (e : Expr) (ev : Loc → Hp → Option (RV × Hp)) : Prop :=
  ∀ O ad loc hp s rv hp' Q, St c O X F ad hp loc sc env s → ev loc hp = some (rv, hp') → PE c X s O ad rv hp' Q → wpAny (model c.prog c.w) A (eval e env) Q NoE s
noncomputable def OkB (c : Cx) (A : Around) (sc : Sc) (X F : Addr → Prop) (env : Env) (e : Expr) (ev : Loc → Hp → Option (Bool × Hp)) : Prop :=
  ∀ O ad loc hp s b hp' Q, St c O X F ad hp loc sc env s → ev loc hp = some (b, hp') → PB c X s O ad b hp' Q → wpAny (model c.prog c.w) A (isTrue e env (eval e env)) Q NoE s
variable {c : Cx} {A : Around} {sc : Sc} {O O1 X F : Addr → Prop} {env : Env} {ad ad1 : AdT} {hp hp1 hp' : Hp} {loc : Loc} {s s1 : Shared} {cl : Nat}
theorem St.step (S : St c O X F ad hp loc sc env s) (H : SR c s1 O1 X ad1 hp1) (t : Step s.heap O s1.heap O1) (p : Prefix ad ad1) : St c O1 X F ad1 hp1 loc sc env s1 :=
  ⟨H, S.en.step t, S.lo.step S.en t p⟩
theorem PE.trans {rv : RV} {Q : Value → Shared → Prop} (k : PE c X s O ad rv hp' Q) (t : Step s.heap O s1.heap O1) (p : Prefix ad ad1) : PE c X s1 O1 ad1 rv hp' Q :=
  fun v s' O' ad' a b d r => k v s' O' ad' a (t.trans b) (p.trans d) r
theorem PEs.trans {rv : List RV} {Q : List Value → Shared → Prop} (k : PEs c X s O ad rv hp' Q) (t : Step s.heap O s1.heap O1) (p : Prefix ad ad1) : PEs c X s1 O1 ad1 rv hp' Q :=
  fun v s' O' ad' a b d r => k v s' O' ad' a (t.trans b) (p.trans d) r
theorem PB.trans {b : Bool} {Q : Bool → Shared → Prop} (k : PB c X s O ad b hp' Q) (t : Step s.heap O s1.heap O1) (p : Prefix ad ad1) : PB c X s1 O1 ad1 b hp' Q :=
  fun s' O' ad' a b d => k s' O' ad' a (t.trans b) (p.trans d)
theorem SR.live (H : SR c s O X ad hp) : Live s.heap (U O X) := fun b x => by
  rcases x with x | x
  · exact H.oin b x
  · exact (H.xin b x).2
theorem PE.op {x : V} {t : Sem Value} {R : Heap → Value → Prop} {Q : Value → Shared → Prop} (k : PE c X s O ad (.val x) hp Q) (H : SR c s O X ad hp) (o : POp (model c.prog c.w) A t s R) (hR : ∀ h v, R h v → Rep h (U O X) x v) :
    wpAny (model c.prog c.w) A t Q NoE s :=
  o Q NoE fun v h' tk kp r => k v _ O ad (H.stay kp) (Step.stay kp) (.refl _) (hR _ _ r)
theorem PE.now {rv : RV} {v : Value} {Q : Value → Shared → Prop} (k : PE c X s O ad rv hp Q) (H : SR c s O X ad hp) (r : RepRV s.heap (U O X) ad rv v) (tk : Nat) : Q v { s with toks := tk } :=
  k v _ O ad (H.tok tk) (Step.refl _ _) (.refl _) r
theorem PE.here {rv : RV} {v : Value} {Q : Value → Shared → Prop} (k : PE c X s O ad rv hp Q) (H : SR c s O X ad hp) (r : RepRV s.heap (U O X) ad rv v) : Q v s :=
  k v _ O ad H (Step.refl _ _) (.refl _) r
theorem starEach_cons {e : Expr} (h : notStar e = true) (rest : List Expr) (env : Env) : starEach (e :: rest) env = (false, eval e env) :: starEach rest env := by
  rcases e with _ | _ <;> first | rfl | exact nB h
theorem chkL_c {f : CE → Expr → Bool} {c : CE} {cs : List CE} {e : Expr} {es : List Expr} : chkL f (c :: cs) (e :: es) = (f c e && notStar e && chkL f cs es) := rfl
@[elab_as_elim] theorem chkL_ind {f : CE → Expr → Bool} {M : List CE → List Expr → Prop} {ces : List CE} {es : List Expr} (h : chkL f ces es = true) (n : M [] []) (k : ∀ ce ces e es, f ce e = true → notStar e = true → M ces es → M (ce :: ces) (e :: es)) : M ces es := by
  induction ces generalizing es with
  | nil =>
    rcases es with _ | ⟨e, es⟩
    · exact n
    · exact nB h
  | cons ce ces ih =>
    rcases es with _ | ⟨e, es⟩
    · exact nB h
    · have q := (Bool.and_eq_true _ _).mp (show (f ce e && notStar e && chkL f ces es) = true from h)
      have q1 := (Bool.and_eq_true _ _).mp q.1
      exact k ce ces e es q1.1 q1.2 (ih q.2)
theorem chkL_len {f : CE → Expr → Bool} {ces es} (h : chkL f ces es = true) : es.length = ces.length :=
  chkL_ind (M := fun ces es => es.length = ces.length) h rfl fun _ _ _ _ _ _ ih => congrArg (· + 1) ih
theorem noneStar {f : CE → Expr → Bool} (env : Env) (pos : Pos) {ces es} (h : chkL f ces es = true) : (backTo pos (starEach es env)).any (·.1) = false :=
  chkL_ind (M := fun _ es => (backTo pos (starEach es env)).any (·.1) = false) h rfl fun _ _ _ _ _ h2 ih => by rw [starEach_cons h2]; exact ih
theorem rVal_e {h : Heap} {Y : Addr → Prop} {x : RV} {v : Value} {γ : Type} {f : V → Option γ} {z : γ} {M : Prop} (e : vVal none x f = some z) (r : RepRV h Y ad x v) (k : ∀ y, x = .val y → Rep h Y y v → f y = some z → M) : M := match x, e, r with
  | .val y, e, r => k y rfl r e
  | .ref _, e, _ => nS e
@[elab_as_elim] theorem rRef_e {h : Heap} {Y : Addr → Prop} {x : RV} {v : Value} {γ : Type} {f : Nat → Option γ} {z : γ} {M : Value → Prop} (e : vRef none x f = some z) (r : RepRV h Y ad x v) (k : ∀ i a w, ad[i]? = some (a, w) → f i = some z → M (.ref a)) : M v := match x, e, r with
  | .ref i, e, ⟨a, w, ea, q⟩ => q ▸ k i a w ea e
  | .val _, e, _ => nS e
@[elab_as_elim] theorem rI_e {h : Heap} {Y : Addr → Prop} {x : RV} {v : Value} {γ : Type} {f : Int → Option γ} {z : γ} {M : Value → Prop} (e : vI none x f = some z) (r : RepRV h Y ad x v) (k : ∀ i t, f i = some z → M (.int i t)) : M v := match x, e, r with
  | .val (.int i), e, ⟨t, q⟩ => q ▸ k i t e
  | .val .none, e, _ => nS e
  | .val (.bool _), e, _ => nS e
  | .val (.str _), e, _ => nS e
  | .val (.tup _), e, _ => nS e
  | .val (.lst _), e, _ => nS e
  | .val (.rng _ _ _), e, _ => nS e
  | .ref _, e, _ => nS e
@[elab_as_elim] theorem rB_e {h : Heap} {Y : Addr → Prop} {x : RV} {v : Value} {γ : Type} {f : Bool → Option γ} {z : γ} {M : Value → Prop} (e : vB none x f = some z) (r : RepRV h Y ad x v) (k : ∀ b, f b = some z → M (.bool b)) : M v := match x, e, r with
  | .val (.bool b), e, q => Eq.symm (show v = .bool b from q) ▸ k b e
  | .val .none, e, _ => nS e
  | .val (.int _), e, _ => nS e
  | .val (.str _), e, _ => nS e
  | .val (.tup _), e, _ => nS e
  | .val (.lst _), e, _ => nS e
  | .val (.rng _ _ _), e, _ => nS e
  | .ref _, e, _ => nS e
@[elab_as_elim] theorem rNone_e {h : Heap} {Y : Addr → Prop} {x : RV} {v : Value} {γ : Type} {f : Option γ} {z : γ} {M : Value → Prop} (e : vNone none x f = some z) (r : RepRV h Y ad x v) (k : f = some z → M .none) : M v := match x, e, r with
  | .val .none, e, q => Eq.symm (show v = .none from q) ▸ k e
  | .val (.bool _), e, _ => nS e
  | .val (.int _), e, _ => nS e
  | .val (.str _), e, _ => nS e
  | .val (.tup _), e, _ => nS e
  | .val (.lst _), e, _ => nS e
  | .val (.rng _ _ _), e, _ => nS e
  | .ref _, e, _ => nS e
theorem rTup_e {h : Heap} {Y : Addr → Prop} {x : RV} {v : Value} {γ : Type} {f : List V → Option γ} {z : γ} {M : Prop} (e : vTup none x f = some z) (r : RepRV h Y ad x v) (k : ∀ vs, Rep h Y (.tup vs) v → f vs = some z → M) : M := match x, e, r with
  | .val (.tup vs), e, q => k vs q e
  | .val .none, e, _ => nS e
  | .val (.int _), e, _ => nS e
  | .val (.str _), e, _ => nS e
  | .val (.bool _), e, _ => nS e
  | .val (.lst _), e, _ => nS e
  | .val (.rng _ _ _), e, _ => nS e
  | .ref _, e, _ => nS e
theorem rLst_e {h : Heap} {Y : Addr → Prop} {x : RV} {v : Value} {γ : Type} {f : List V → Option γ} {z : γ} {M : Prop} (e : vLst none x f = some z) (r : RepRV h Y ad x v) (k : ∀ vs, Rep h Y (.lst vs) v → f vs = some z → M) : M := match x, e, r with
  | .val (.lst vs), e, q => k vs q e
  | .val .none, e, _ => nS e
  | .val (.int _), e, _ => nS e
  | .val (.str _), e, _ => nS e
  | .val (.tup _), e, _ => nS e
  | .val (.bool _), e, _ => nS e
  | .val (.rng _ _ _), e, _ => nS e
  | .ref _, e, _ => nS e
theorem PE.of {a : RV} {b : Hp} {rv : RV} {Q : Value → Shared → Prop} (k : PE c X s O ad rv hp' Q) (e : some (a, b) = some (rv, hp')) : PE c X s O ad a b Q := by obtain ⟨rfl, rfl⟩ := Prod.mk.inj (Option.some.inj e); exact k
theorem PEs.of {a : List RV} {b : Hp} {rv : List RV} {Q : List Value → Shared → Prop} (k : PEs c X s O ad rv hp' Q) (e : some (a, b) = some (rv, hp')) : PEs c X s O ad a b Q := by obtain ⟨rfl, rfl⟩ := Prod.mk.inj (Option.some.inj e); exact k
theorem PB.of {a : Bool} {b : Hp} {rv : Bool} {Q : Bool → Shared → Prop} (k : PB c X s O ad rv hp' Q) (e : some (a, b) = some (rv, hp')) : PB c X s O ad a b Q := by obtain ⟨rfl, rfl⟩ := Prod.mk.inj (Option.some.inj e); exact k
theorem RepRVs.val {h : Heap} {O : Addr → Prop} {ad : AdT} {rvs : List RV} : ∀ {ws : List V} {vs : List Value}, valsOf rvs = some ws → RepRVs h O ad rvs vs → RepL h O ws vs := by
  induction rvs with
  | nil => exact fun e r => Option.some.inj e ▸ r
  | cons x rest ih => exact fun e r => RepRVs.out r fun v l a b => rVal_e e a fun y q r e => vS_e e fun us q e => Option.some.inj e ▸ ⟨v, l, rfl, r, ih q b⟩
section
variable {P : Prog} {C : CallT} {r : EV} {K : CE → Expr → Bool}
theorem valsOf_len : ∀ {rs : List RV} {ws : List V}, valsOf rs = some ws → ws.length = rs.length
  | [], ws => @fun q => by obtain rfl := Option.some.inj q; rfl
  | .val x :: rs, ws => @fun q => vS_e q fun us q e => Option.some.inj e ▸ congrArg (· + 1) (valsOf_len q)
  | .ref _ :: rs, ws => @fun q => nS q
theorem evR_len : ∀ {ces : List CE} {hp : Hp} {rs : List RV} {hp' : Hp}, evR r.E loc ces hp = some (rs, hp') → rs.length = ces.length
  | [], hp, rs, hp' => @fun q => by obtain ⟨rfl, rfl⟩ := Prod.mk.inj (Option.some.inj q); rfl
  | ce :: ces, hp, rs, hp' => @fun q => obn_e q fun v h1 _ q => obn_e q fun vs h2 q e => oP_e (M := fun rs _ => rs.length = ces.length + 1) e (congrArg (· + 1) (evR_len q))
theorem evR_cons {E : Loc → Hp → CE → Option (RV × Hp)} {a : CE} {es : List CE} {x : RV} {vs : List RV} {hp2 : Hp} (e1 : E loc hp a = some (x, hp1)) (e2 : evR E loc es hp1 = some (vs, hp2)) : evR E loc (a :: es) hp = some (x :: vs, hp2) := by
  show obn _ _ = _
  rw [e1, obn_eq]
  show obn _ _ = _
  rw [e2, obn_eq]
  rfl
theorem n_args (pos : Pos) (IHE : ∀ ce e, K ce e = true → OkE c A sc X F env e (fun l h => r.E l h ce)) {ces : List CE} {es : List Expr} (h : chkL K ces es = true) :
    ∀ {O ad hp s} {rvs : List RV} {hp' : Hp} {Q : List Value → Shared → Prop}, St c O X F ad hp loc sc env s → evR r.E loc ces hp = some (rvs, hp') → PEs c X s O ad rvs hp' Q →
      wpAny (model c.prog c.w) A (spliced (backTo pos (starEach es env))) Q NoE s := by
  refine @chkL_ind _ (fun ces es => ∀ {O ad hp s} {rvs : List RV} {hp' : Hp} {Q : List Value → Shared → Prop}, St c O X F ad hp loc sc env s → evR r.E loc ces hp = some (rvs, hp') → PEs c X s O ad rvs hp' Q → wpAny (model c.prog c.w) A (spliced (backTo pos (starEach es env))) Q NoE s) _ _ h ?_ ?_
  · intro O ad hp s rvs hp' Q S e k
    obtain ⟨rfl, rfl⟩ := Prod.mk.inj (Option.some.inj e)
    exact args_nil (k [] s O ad S.sr (Step.refl _ _) (.refl _) rfl)
  · intro ce ces e es h1 h2 ih O ad hp s rvs hp' Q S ev k
    refine obn_e ev fun v hp1 e1 ev => obn_e ev fun vs hp2 e2 ev => args_cons (IHE ce e h1 _ _ _ _ _ _ _ _ S e1 fun v1 s1 O1 ad1 H1 t1 p1 r1 => ?_) (starEach_cons h2 _ _)
    refine ih (S.step H1 t1 p1) e2 fun vs s2 O2 ad2 H2 t2 p2 r2 => (k.of ev) _ _ _ _ H2 (t1.trans t2) (p1.trans p2) ⟨v1, vs, rfl, r1.step (t2.av X) p2, r2⟩
variable (IHE : ∀ ce e, K ce e = true → OkE c A sc X F env e (fun l h => r.E l h ce)) (IHB : ∀ ce e, K ce e = true → OkB c A sc X F env e (fun l h => r.B l h ce))
theorem n_none {k pos} : OkE c A sc X F env (.Constant .none k pos) (fun l h => stepE P C r l h .cnone) := fun O ad loc hp s rv hp' Q S e k => by
  obtain ⟨rfl, rfl⟩ := Prod.mk.inj (Option.some.inj e); exact Constant_none (k.here S.sr rfl)
theorem n_bool {b k pos} : OkE c A sc X F env (.Constant (.bool b) k pos) (fun l h => stepE P C r l h (.cbool b)) := fun O ad loc hp s rv hp' Q S e k => by
  obtain ⟨rfl, rfl⟩ := Prod.mk.inj (Option.some.inj e); exact Constant_bool (k.here S.sr rfl)
theorem n_int {i : Nat} {k pos} : OkE c A sc X F env (.Constant (.int (i : Int)) k pos) (fun l h => stepE P C r l h (.cint i)) := fun O ad loc hp s rv hp' Q S e k => by
  obtain ⟨rfl, rfl⟩ := Prod.mk.inj (Option.some.inj e); exact wpAny_Constant_int (k.now S.sr ⟨_, rfl⟩ _)
theorem n_str {i : Nat} {k pos} (hi : i < 9) : OkE c A sc X F env (.Constant (.str (strT i)) k pos) (fun l h => stepE P C r l h (.cstr i)) := fun O ad loc hp s rv hp' Q S e k => by
  obtain ⟨rfl, rfl⟩ := Prod.mk.inj (Option.some.inj e); exact Calls.Constant_str (k.now S.sr ⟨hi, _, rfl⟩ _)
theorem n_loc {x : Nat} {pos} (ok : c.OK) : OkE c A sc X F env (.Name (c.nm x) pos) (fun l h => stepE P C r l h (.loc x)) := fun O ad loc hp s rv hp' Q S e k =>
  vS_e e fun v q e => load_var ok S.en S.lo q fun v r => (k.of e).here S.sr r
include IHE in
theorem n_tup {ces es m pos} (h : chkL K ces es = true) (hl : ces.length ≤ 64) : OkE c A sc X F env (.Tuple es m pos) (fun l h => stepE P C r l h (.tup ces)) := fun O ad loc hp s rv hp' Q S e k =>
  obn_e e fun vs hp1 e1 e => vS_e e fun ws e2 e => Tuple_ (n_args pos IHE h S e1 fun vs s1 O1 ad1 H1 t1 p1 r1 =>
    have rl := r1.val e2
    ((k.of e).trans t1 p1).op H1 (p_newTuple H1.live (by rw [rl.length, valsOf_len e2, evR_len e1]; lia) rl) fun _ _ r => r)
end
end Mine.Internal
namespace Mine.Internal
open PySem PySem.W PyProof.Rows
variable {c : Cx} {A : Around} {sc : Sc} {O O1 X F : Addr → Prop} {env : Env} {ad ad1 : AdT} {hp hp1 hp' : Hp} {loc : Loc} {s s1 : Shared} {cl : Nat}
theorem RepRV.asA {rv : RV} {x : V} {v : Value} (H : SR c s O X ad hp) (e : asV hp rv = some x) (r : RepRV s.heap (U O X) ad rv v) : RepA s.heap (U O X) x v := asV_rep H.hr e r
theorem asVs_rep {h : Heap} (H : HRel c h O X ad hp) {rvs : List RV} : ∀ {xs : List V} {vs : List Value}, asVs hp rvs = some xs → RepRVs h (U O X) ad rvs vs → RepAs h (U O X) xs vs := by
  induction rvs with
  | nil => exact fun e r => Option.some.inj e ▸ r
  | cons rv rvs ih => exact fun e r => RepRVs.out r fun v l a b => vS_e e fun x q e => vS_e e fun ys q' e => Option.some.inj e ▸ ⟨v, l, rfl, asV_rep H q a, ih q' b⟩
theorem SR.push (H : SR c s O X ad hp) {h' : Heap} {tk : Nat} {a w : Addr} {o : HObj} (k : Kp s.heap h') (hw : s.heap.get? w = none) (hw' : ∃ x, h'.get? w = some x)
    (r : ObjRel c h' (fun b => O b ∨ b = w) X (ad ++ [(a, w)]) o a w) : SR c { s with heap := h', toks := tk } (fun b => O b ∨ b = w) X (ad ++ [(a, w)]) (hp ++ [o]) := by
  obtain ⟨⟨h, t, rfl⟩, hk, ho, hi, hx, hr⟩ := H
  refine ⟨⟨h', tk, rfl⟩, fun b o q => k b o (hk b o q), fun b q => ?_, fun b q => ?_, fun b q => ?_, hr.push k (fun b q => ?_) (fun b q => .inl q) hw r⟩
  · rcases q with q | rfl
    · exact ho b q
    · induction e : c.s₀.heap.get? b with
      | none => rfl
      | some o => have := hk b o e; rw [show h.get? b = none from hw] at this; exact nS this
  · rcases q with q | rfl
    · obtain ⟨o, e⟩ := hi b q; exact ⟨o, k _ _ e⟩
    · exact hw'
  · obtain ⟨n, o, e⟩ := hx b q
    refine ⟨fun z => ?_, o, k _ _ e⟩
    rcases z with z | rfl
    · exact n z
    · rw [show h.get? b = none from hw] at e; exact nS e
  · rcases q with q | rfl
    · exact .inl q
    · exact .inr hw
theorem Step.push {h h' : Heap} {w : Addr} (k : Kp h h') (hw : h.get? w = none) : Step h O h' (fun b => O b ∨ b = w) :=
  ⟨fun b o _ e => k b o e, fun b q => by
    rcases q with q | rfl
    · exact .inl q
    · exact .inr hw⟩
theorem SR.set (H : SR c s O X ad hp) {h' : Heap} {tk : Nat} {i : Nat} {a w : Addr} {o : HObj} (ei : ad[i]? = some (a, w)) (hO : O w) (k : ∀ b x, b ≠ w → s.heap.get? b = some x → h'.get? b = some x) (hw' : ∃ x, h'.get? w = some x)
    (r : ObjRel c h' O X ad o a w) : SR c { s with heap := h', toks := tk } O X ad (hp.set i o) := by
  obtain ⟨⟨h, t, rfl⟩, hk, ho, hi, hx, hr⟩ := H
  have there : ∀ b, (∃ o, h.get? b = some o) → ∃ o, h'.get? b = some o := fun b ⟨o, q⟩ => by
    by_cases z : b = w
    · exact z ▸ hw'
    · exact ⟨o, k b o z q⟩
  exact ⟨⟨h', tk, rfl⟩, fun b o q => k b o (fun z => by rw [z, ho w hO] at q; exact nS q) (hk b o q), ho, fun b q => there b (hi b q), fun b q => ⟨(hx b q).1, there b (hx b q).2⟩, hr.set ei hO k r⟩
theorem Step.set {h h' : Heap} {w : Addr} (hO : O w) (k : ∀ b x, b ≠ w → h.get? b = some x → h'.get? b = some x) : Step h O h' O :=
  ⟨fun b o n e => k b o (fun z => n (z ▸ hO)) e, fun b q => .inl q⟩
theorem SR.freeze (H : SR c s O X ad hp) {i : Nat} {a w : Addr} {xs : List V} (ei : ad[i]? = some (a, w)) (eh : hp[i]? = some (.mlst xs)) :
    SR c s (fun b => O b ∧ b ≠ a) X ad (hp.set i (.flst xs)) ∧ Rep s.heap (U (fun b => O b ∧ b ≠ a) X) (.lst xs) (.ref a) ∧ Step s.heap O s.heap (fun b => O b ∧ b ≠ a) := by
  have q := H.hr.freeze H.xo ei eh
  exact ⟨⟨H.same, H.keep, fun b z => H.own b z.1, fun b z => H.oin b z.1, fun b z => ⟨fun y => (H.xin b z).1 y.1, (H.xin b z).2⟩, q.1⟩, q.2, ⟨fun b o _ e => e, fun b z => .inl z.1⟩⟩
theorem PE.newM {ws : List V} {Q : Value → Shared → Prop} {vs : List Value} (k : PE c X s O ad (.ref hp.length) (hp ++ [.mlst ws]) Q) (H : SR c s O X ad hp) (hl : vs.length ≤ 4096) (r : RepL s.heap (U O X) ws vs) :
    wpAny (model c.prog c.w) A (newList vs) Q NoE s := by
  refine wpAny_newObj_type ?_ (by show vs.toArray.size ≤ sizeLine; rw [List.size_toArray]; exact line_4096 hl)
  have kp := Kp.push s.heap (listObj vs 0)
  have hw := size_none s.heap
  have st : Step s.heap O (s.heap.push (listObj vs 0)) (fun b => O b ∨ b = s.heap.objs.size) := Step.push kp hw
  have rl : RepL (s.heap.push (listObj vs 0)) (U (fun b => O b ∨ b = s.heap.objs.size) X) ws vs := r.step (st.av X)
  refine k (.ref s.heap.objs.size) _ _ _ (H.push (tk := s.toks) (a := s.heap.objs.size) (w := s.heap.objs.size) (o := .mlst ws) kp hw ⟨_, Heap.get?_push_size _ rfl⟩
    ⟨rfl, .inr rfl, by rw [← rl.length]; exact hl, vs, 0, Heap.get?_push_size _ rfl, rl⟩) st (.snoc _ _) ⟨_, s.heap.objs.size, ?_, rfl⟩
  rw [← H.hr.len, List.getElem?_append_right (Nat.le_refl _)]
  simp
section
variable {P : Prog} {C : CallT} {r : EV} {K KB : CE → Expr → Bool}
variable (IHE : ∀ ce e, K ce e = true → OkE c A sc X F env e (fun l h => r.E l h ce)) (IHB : ∀ ce e, KB ce e = true → OkB c A sc X F env e (fun l h => r.B l h ce))
include IHE in
theorem n_lst {mt ces es pos} (h : chkL K ces es = true) (hl : ces.length ≤ 64) : OkE c A sc X F env (.List es pos) (fun l h => stepE P C r l h (.lst mt ces)) := fun O ad loc hp s rv hp' Q S e k =>
  obn_e e fun vs hp1 e1 e => vS_e e fun ws e2 e => List_ (n_args pos IHE h S e1 fun vs s1 O1 ad1 H1 t1 p1 r1 => by
    have rl := r1.val e2
    have hz : vs.length ≤ 4096 := by rw [rl.length, valsOf_len e2, evR_len e1]; lia
    induction mt with
    | true => exact ((k.of e).trans t1 p1).newM H1 hz rl
    | false => exact ((k.of e).trans t1 p1).op H1 (p_newList H1.live hz rl) fun _ _ r => r)
include IHE in
theorem n_frz {ce ex} (h : K ce ex = true) : OkE c A sc X F env ex (fun l h => stepE P C r l h (.frz ce)) := fun O ad loc hp s rv hp' Q S e k =>
  obn_e e fun v hp1 e1 e => IHE ce ex h _ _ _ _ _ _ _ _ S e1 fun v1 s1 O1 ad1 H1 t1 p1 r1 => by
    induction v with
    | val v => exact (k.of e) _ _ _ _ H1 t1 p1 r1
    | ref i =>
      obtain ⟨a, w, ea, rfl⟩ := r1
      exact hOb_e e (fun xs q e => have ⟨H2, R, t2⟩ := H1.freeze ea q; (k.of e) _ _ _ _ H2 (t1.trans t2) p1 R) (fun xs q e => (k.of e) _ _ _ _ H1 t1 p1 (H1.hr.obj i _ a w q ea).2) fun _ _ e => nS e
include IHE in
theorem n_bin {op a b ea eb pos} (h1 : K a ea = true) (h2 : K b eb = true) : OkE c A sc X F env (.BinOp ea (opOf op) eb pos) (fun l h => stepE P C r l h (.bin op a b)) := fun O ad loc hp s rv hp' Q S e k =>
  obn_e e fun x hp1 e1 e => obn_e e fun y hp2 e2 e => vS_e e fun u e3 e => vS_e e fun v e4 e => vS_e e fun z e5 e =>
    wpAny_BinOp (IHE a ea h1 _ _ _ _ _ _ _ _ S e1 fun v1 s1 O1 ad1 H1 t1 p1 r1 => IHE b eb h2 _ _ _ _ _ _ _ _ (S.step H1 t1 p1) e2 fun v2 s2 O2 ad2 H2 t2 p2 r2 =>
      ((k.of e).trans (t1.trans t2) (p1.trans p2)).op H2 (p_bin H2.live ((r1.step (t2.av X) p2).asA H2 e3) (r2.asA H2 e4) e5) fun _ _ r => r)
theorem noMarks {op : CmpOp} {e : Expr} (h : notSet e = true) : behindInMarks op e = false :=
  cfn (b := e.ctorIdx == 7) (y := behindInMarks op e) (by clear h; rcases e with _ | _ <;> first | exact @rfl Bool false | rfl) h
include IHE in
theorem n_cmp {op a b ea eb pos} (rm : Room A cl) (h1 : K a ea = true) (h2 : K b eb = true) (hs : notSet eb = true) : OkE c A sc X F env (.Compare ea [copOf op] [eb] pos) (fun l h => stepE P C r l h (.cmp op a b)) := fun O ad loc hp s rv hp' Q S e k =>
  obn_e e fun x hp1 e1 e => obn_e e fun y hp2 e2 e => vS_e e fun u e3 e => vS_e e fun v e4 e => vS_e e fun z e5 e =>
    wpAny_Compare1 (IHE a ea h1 _ _ _ _ _ _ _ _ S e1 fun v1 s1 O1 ad1 H1 t1 p1 r1 => IHE b eb h2 _ _ _ _ _ _ _ _ (S.step H1 t1 p1) e2 fun v2 s2 O2 ad2 H2 t2 p2 r2 =>
      ((k.of e).trans (t1.trans t2) (p1.trans p2)).op H2 (p_cmp rm ((r1.step (t2.av X) p2).asA H2 e3) (r2.asA H2 e4) e5) fun _ _ r => r) (noMarks hs)
include IHE in
theorem n_neg {a ea pos} (h1 : K a ea = true) : OkE c A sc X F env (.UnaryOp .USub ea pos) (fun l h => stepE P C r l h (.neg a)) := fun O ad loc hp s rv hp' Q S e k =>
  obn_e e fun x hp1 e1 e => UnaryOp_ (IHE a ea h1 _ _ _ _ _ _ _ _ S e1 fun v1 s1 O1 ad1 H1 t1 p1 r1 => rI_e e r1 fun i t e => PyProof.Rows.neg_int (((k.of e).trans t1 p1).now H1 ⟨_, rfl⟩ _))
theorem truthy_b {b : Bool} {Q : Bool → Shared → Prop} {E : Value → Shared → Prop} (h : Q b s) : wpAny (model c.prog c.w) A (truthy (.bool b)) Q E s := fun _ _ _ => h
include IHE in
theorem n_not {a ea pos} (h1 : K a ea = true) : OkE c A sc X F env (.UnaryOp .Not ea pos) (fun l h => stepE P C r l h (.not a)) := fun O ad loc hp s rv hp' Q S e k =>
  obn_e e fun x hp1 e1 e => UnaryOp_ (IHE a ea h1 _ _ _ _ _ _ _ _ S e1 fun v1 s1 O1 ad1 H1 t1 p1 r1 => rB_e e r1 fun i e => not_of (truthy_b (((k.of e).trans t1 p1).here H1 rfl)))
include IHE in
theorem n_boo {ia a b ea eb pos} (h1 : K a ea = true) (h2 : K b eb = true) : OkE c A sc X F env (.BoolOp (booOf ia) [ea, eb] pos) (fun l h => stepE P C r l h (.boo ia a b)) := fun O ad loc hp s rv hp' Q S e k =>
  obn_e e fun x hp1 e1 e => by
    induction ia with
    | true =>
      exact BoolOp_and (IHE a ea h1 _ _ _ _ _ _ _ _ S e1 fun v1 s1 O1 ad1 H1 t1 p1 r1 => rB_e e r1 fun x e => truthy_b (by
        cases x with
        | true => exact BoolOp_one (IHE b eb h2 _ _ _ _ _ _ _ _ (S.step H1 t1 p1) e (k.trans t1 p1))
        | false => exact ((k.of e).trans t1 p1).here H1 rfl))
    | false =>
      exact BoolOp_or (IHE a ea h1 _ _ _ _ _ _ _ _ S e1 fun v1 s1 O1 ad1 H1 t1 p1 r1 => rB_e e r1 fun x e => truthy_b (by
        cases x with
        | false => exact BoolOp_one (IHE b eb h2 _ _ _ _ _ _ _ _ (S.step H1 t1 p1) e (k.trans t1 p1))
        | true => exact ((k.of e).trans t1 p1).here H1 rfl))
include IHE IHB in
theorem n_ite {t a b et ea eb pos} (h0 : KB t et = true) (h1 : K a ea = true) (h2 : K b eb = true) : OkE c A sc X F env (.IfExp et ea eb pos) (fun l h => stepE P C r l h (.ite t a b)) := fun O ad loc hp s rv hp' Q S e k =>
  obn_e e fun x hp1 e1 e => IfExp_ (IHB t et h0 _ _ _ _ _ _ _ _ S e1 fun s1 O1 ad1 H1 t1 p1 => by
    induction x with
    | true => exact IHE a ea h1 _ _ _ _ _ _ _ _ (S.step H1 t1 p1) e (k.trans t1 p1)
    | false => exact IHE b eb h2 _ _ _ _ _ _ _ _ (S.step H1 t1 p1) e (k.trans t1 p1))
theorem sub_ops (slice : Expr) (o i : Value) : ∃ ops, subscripted slice false o i = operate ops (getItem o i) := by
  cases slice with
  | Slice l u st p => rcases st with _ | _ <;> exact ⟨_, rfl⟩
  | _ => exact ⟨_, rfl⟩
theorem subTail {value slice : Expr} {o i : Value} {T id : String} {Q : Value → Shared → Prop} {E : Value → Shared → Prop} (hT : s.TypeIs o T)
    (hl : typeLookup (.type T) "__getitem__" = pure (some (.builtin id))) (h : wpAny (model c.prog c.w) A (getItem o i) Q E s) : wpAny (model c.prog c.w) A (subscriptTail value slice o i) Q E s := by
  unfold subscriptTail
  refine wpAny_bind ?_
  rw [getitemInPython_of_ne hT.not_modules]
  refine wpAny_bind (wpAny_specialOf hT hl ?_)
  obtain ⟨ops, hs⟩ := sub_ops slice o i
  have fin : wpAny (model c.prog c.w) A (subscripted slice false o i) (fun r s₃ => wpAny (model c.prog c.w) A (letTemporaryGo value o r >>= fun _ => pure r) Q E s₃) E s := by
    rw [hs]
    exact wpAny_operating (wpAny_mono h (fun r s₃ h₃ => wpAny_bind (wpAny_letTemporaryGo (wpAny_pure h₃))) fun _ _ x => x)
  first
    | exact wpAny_pure (wpAny_bind fin)
    | exact wpAny_bind (wpAny_pure (wpAny_bind fin))
    | exact wpAny_bind fin
theorem sub_tup {value slice : Expr} {xs : List V} {v i : Value} {Q : Value → Shared → Prop} (ra : RepA s.heap (U O X) (.tup xs) v) (h : wpAny (model c.prog c.w) A (getItem v i) Q NoE s) : wpAny (model c.prog c.w) A (subscriptTail value slice v i) Q NoE s := by
  obtain ⟨a, its, n, rfl, _, g, _⟩ := ra
  exact subTail (isTup_of g).typeIs slot_tuple_getitem.lookup h
theorem sub_lst {value slice : Expr} {xs : List V} {v i : Value} {Q : Value → Shared → Prop} (ra : RepA s.heap (U O X) (.lst xs) v) (h : wpAny (model c.prog c.w) A (getItem v i) Q NoE s) : wpAny (model c.prog c.w) A (subscriptTail value slice v i) Q NoE s := by
  obtain ⟨a, its, n, rfl, g, _⟩ := ra
  exact subTail (isList_of g).typeIs list_getitem_lookup h
theorem vSq_e {γ : Type} {M : Prop} {x : V} {f : List V → Option γ} {z : γ} (h : vSq none x f = some z) (k1 : ∀ vs, x = .tup vs → f vs = some z → M) (k2 : ∀ vs, x = .lst vs → f vs = some z → M) : M := match x, h with
  | .tup vs, h => k1 vs rfl h
  | .lst vs, h => k2 vs rfl h
  | .none, h => nS h
  | .bool _, h => nS h
  | .int _, h => nS h
  | .str _, h => nS h
  | .rng _ _ _, h => nS h
include IHE in
theorem n_idx {o i eo ei pos} (h1 : K o eo = true) (h2 : K i ei = true) : OkE c A sc X F env (.Subscript eo ei pos) (fun l h => stepE P C r l h (.idx o i)) := fun O ad loc hp s rv hp' Q S e k =>
  obn_e e fun x hp1 e1 e => obn_e e fun y hp2 e2 e => Subscript_ (IHE o eo h1 _ _ _ _ _ _ _ _ S e1 fun v1 s1 O1 ad1 H1 t1 p1 r1 =>
    IHE i ei h2 _ _ _ _ _ _ _ _ (S.step H1 t1 p1) e2 fun v2 s2 O2 ad2 H2 t2 p2 r2 => rI_e e r2 fun n t e => vS_e e fun u e3 e =>
      have ra := (r1.step (t2.av X) p2).asA H2 e3
      have kk := k.trans (t1.trans t2) (p1.trans p2)
      vSq_e e (fun vs q e => vS_e e fun w e4 e => have ra := q ▸ ra; sub_tup ra ((kk.of e).op H2 (p_idx_tup ra e4) fun _ _ r => r))
        fun vs q e => vS_e e fun w e4 e => have ra := q ▸ ra; sub_lst ra ((kk.of e).op H2 (p_idx_lst ra e4) fun _ _ r => r))
include IHE in
theorem n_part {ce e} (h : chkO K ce e = true) {O ad hp s p hp'} {Q : Value → Shared → Prop} (S : St c O X F ad hp loc sc env s) (ev : optE r.E loc hp ce = some (p, hp'))
    (k : ∀ v s' O' ad', SR c s' O' X ad' hp' → Step s.heap O s'.heap O' → Prefix ad ad' → IsPart v p → Q v s') : wpAny (model c.prog c.w) A (evalPart e env) Q NoE s := by
  induction ce with
  | none =>
    induction e with
    | none => obtain ⟨rfl, rfl⟩ := Prod.mk.inj (Option.some.inj ev); exact wpAny_evalPart_none (k _ _ O ad S.sr (Step.refl _ _) (.refl _) .none)
    | some e => exact nB h
  | some ce =>
    induction e with
    | none => exact nB h
    | some e => exact obn_e ev fun v hp1 e1 ev => wpAny_evalPart_some (IHE ce e h _ _ _ _ _ _ _ _ S e1 fun v1 s1 O1 ad1 H1 t1 p1 r1 => rI_e ev r1 fun i t ev => by obtain ⟨rfl, rfl⟩ := Prod.mk.inj (Option.some.inj ev); exact k _ _ _ _ H1 t1 p1 (.int _ _))
include IHE in
theorem n_slc {o lo hi eo el eh p pos} (h1 : K o eo = true) (h2 : chkO K lo el = true) (h3 : chkO K hi eh = true) : OkE c A sc X F env (.Subscript eo (.Slice el eh none p) pos) (fun l h => stepE P C r l h (.slc o lo hi)) := fun O ad loc hp s rv hp' Q S e k =>
  obn_e e fun x hp1 e1 e => obn_e e fun a hp2 e2 e => obn_e e fun b hp3 e3 e => vS_e e fun v e4 e => vS_e e fun w e5 e => by
    refine Subscript_ (IHE o eo h1 _ _ _ _ _ _ _ _ S e1 fun v1 s1 O1 ad1 H1 t1 p1 r1 => ?_)
    have S1 := S.step H1 t1 p1
    refine wpAny_Slice (n_part IHE h2 S1 e2 fun vl s2 O2 ad2 H2 t2 p2 pl => ?_)
    refine n_part IHE h3 (S1.step H2 t2 p2) e3 fun vu s3 O3 ad3 H3 t3 p3 pu => wpAny_evalPart_none ?_
    have kp := Kp.push s3.heap { cls := .type "slice", data := .fields #[vl, vu, .none] }
    have hs := Heap.IsSliceOf.new s3.heap vl vu .none
    generalize s3.heap.push { cls := .type "slice", data := .fields #[vl, vu, .none] } = h4 at kp hs ⊢
    have H4 := H3.stay (tk := s3.toks) kp
    have t4 : Step s3.heap O3 h4 O3 := Step.stay kp
    have ra := (((r1.step (t2.av X) p2).step (t3.av X) p3).step (t4.av X) (.refl _)).asA H4 e4
    have kk := (k.of e).trans (s1 := { s3 with heap := h4 }) (((t1.trans t2).trans t3).trans t4) ((p1.trans p2).trans p3)
    cases v with
    | tup xs => exact sub_tup (s := { s3 with heap := h4 }) ra (kk.op H4 (p_slice_tup H4.live hs pl pu ra e5) fun _ _ r => r)
    | lst xs => exact sub_lst (s := { s3 with heap := h4 }) ra (kk.op H4 (p_slice_lst H4.live hs pl pu ra e5) fun _ _ r => r)
    | _ => exact nS e5
end
end Mine.Internal
namespace Mine.Internal
open PySem PySem.W PyProof.Rows
variable {c : Cx} {A : Around} {sc : Sc} {O O1 X F : Addr → Prop} {env : Env} {ad ad1 : AdT} {hp hp1 hp' : Hp} {loc : Loc} {s s1 : Shared} {cl : Nat}
theorem evalArgs_sp {f : Value} {env : Env} {pos : Pos} {es : List Expr} {Q : Args → Shared → Prop} {E : Value → Shared → Prop} (hs : ∀ e ∈ es, notStar e = true)
    (h : wpAny (model c.prog c.w) A (spliced (backTo pos (starEach es env))) (fun vs s' => Q ⟨vs, []⟩ s') E s) : wpAny (model c.prog c.w) A (evalArgs f true (backTo pos (starEach es env)) []) Q E s := by
  induction es with
  | nil =>
    unfold evalArgs
    refine wpAny_bind (wpAny_mono h (fun vs s' h' => wpAny_holding ?_) fun _ _ x => x)
    exact wpAny_bind (wpAny_pure (wpAny_bind (wpAny_pure (wpAny_pure h'))))
  | cons e rest =>
    rw [starEach_cons (hs e (.head _))] at h ⊢
    exact Calls.evalArgs_plain h
theorem chkL_star {f : CE → Expr → Bool} {ces es} (h : chkL f ces es = true) : ∀ e ∈ es, notStar e = true :=
  chkL_ind (M := fun _ es => ∀ e ∈ es, notStar e = true) h (fun _ m => nM m) fun _ _ _ _ _ h2 ih x m => (List.mem_cons.mp m).elim (fun q => q ▸ h2) (ih x)
theorem blt_boot : ∀ b : Blt, bootBuiltins (bltName b) = some (bltVal b) := by
  intro b; rcases b with _ | _ <;> decide +kernel
theorem blt_debug : ∀ b : Blt, (bltName b == ("__debug__" : Str)) = false ∧ bltName b ≠ "__name__" := by
  intro b; rcases b with _ | _ <;> exact ⟨by decide +kernel, by decide +kernel⟩
structure Cx.Gl (c : Cx) : Prop where
  blt : ∀ x ∈ ["abs", "len", "min", "max", "tuple", "list", "range", "sorted", "set", "zip", "enumerate", "super"], c.mg (Str.ofString x) = none
  fn : ∀ f, c.fN f ≠ "" → c.mg (c.fN f) = some (.ref (c.fA f)) ∧ (c.fN f == ("__debug__" : Str)) = false ∧ ∃ o fd, c.s₀.heap.get? (c.fA f) = some o ∧ o.data = .func fd
  cls : ∀ k, c.cN k ≠ "" → c.mg (c.cN k) = some (.ref (c.cA k)) ∧ (c.cN k == ("__debug__" : Str)) = false
theorem kind_glob {n : Str} (e : EnvOK c s.heap O F sc env) (h : sc.lookup n = some .globalImplicit) : env.kindOf n = some .globalImplicit := by
  rcases e.kinds _ _ h with q | ⟨q, _⟩
  · exact q
  · injection q
theorem load_boot {x : Str} {v : Value} {pos : Pos} {Q : Value → Shared → Prop} (ok : c.OK) (H : SR c s O X ad hp) (e : EnvOK c s.heap O F sc env) (h : sc.lookup x = some .globalImplicit) (hm : c.mg x = none) (hb : bootBuiltins x = some v)
    (hn : x ≠ "__name__") (hd : (x == ("__debug__" : Str)) = false) (q : Q v s) : wpAny (model c.prog c.w) A (eval (.Name x pos) env) Q NoE s := by
  refine Calls.Name_function_global e.kind (kind_glob e h) (Calls.loadGlobal_builtin (mg := c.mg) (mb := c.mb) ?_ hm ?_ ?_ q) hd
  · rw [e.glob]; exact ok.g.keeps H.keep
  · rw [e.blt]; exact ok.b.keeps H.keep
  · simp only [ok.bt x hn, hb]
theorem load_glob {x : Str} {v : Value} {pos : Pos} {Q : Value → Shared → Prop} (ok : c.OK) (H : SR c s O X ad hp) (e : EnvOK c s.heap O F sc env) (h : sc.lookup x = some .globalImplicit) (hm : c.mg x = some v)
    (hd : (x == ("__debug__" : Str)) = false) (q : Q v s) : wpAny (model c.prog c.w) A (eval (.Name x pos) env) Q NoE s := by
  refine Calls.Name_function_global e.kind (kind_glob e h) (Calls.loadGlobal_global (mg := c.mg) ?_ hm q) hd
  rw [e.glob]; exact ok.g.keeps H.keep
noncomputable def OkC (c : Cx) (cl : Nat) (C : CallT) : Prop :=
  ∀ (A : Around), Room A cl → ∀ (X O : Addr → Prop) (ad : AdT) (f : Nat) (args : List RV) (hp : Hp) (s : Shared) (vs : List Value) (rv : RV) (hp' : Hp) (R : Result → Shared → Prop),
    SR c s O X ad hp → RepRVs s.heap (U O X) ad args vs → C f args hp = some (rv, hp') → PE c X s O ad rv hp' (fun v s' => R (.ok (.ret v)) s') →
      codeAny (model c.prog c.w) A (.call (.ref (c.fA f)) ⟨vs, []⟩) R s
theorem SR.pure (H : SR c s O X ad hp) : SR c s (fun _ => False) (U O X) [] [] where
  same := H.same
  keep := H.keep
  own := fun _ q => q.elim
  oin := fun _ q => q.elim
  xin := fun b q => ⟨fun z => z, H.live b q⟩
  hr := ⟨rfl, List.Pairwise.nil, fun i o a w e => by simp at e⟩
theorem RepRVs.ofL {h : Heap} {O : Addr → Prop} {ad ad1 : AdT} {rvs : List RV} : ∀ {ws : List V} {vs : List Value}, valsOf rvs = some ws → RepRVs h O ad rvs vs → RepRVs h O ad1 rvs vs := by
  induction rvs with
  | nil => exact fun _ r => r
  | cons x rest ih =>
    rcases x with x | _
    · exact fun e r => RepRVs.out r fun v l a b => vS_e e fun us q _ => ⟨v, l, rfl, a, ih q b⟩
    · exact fun e => nS e
theorem RepRVs.avoid {h : Heap} {O O' : Addr → Prop} {rvs : List RV} {vs : List Value} (k : ∀ b, O' b → O b) (r : RepRVs h O ad rvs vs) : RepRVs h O' ad rvs vs :=
  r.mono (fun b o n e _ => ⟨e, fun z => n (k b z)⟩) (.refl _)
theorem Rep.avoid {h : Heap} {O O' : Addr → Prop} {x : V} {v : Value} (k : ∀ b, O' b → O b) (r : Rep h O x v) : Rep h O' x v :=
  r.mono (fun b o n e _ => ⟨e, fun z => n (k b z)⟩)
theorem SR.back (H : SR c s O X ad hp) {O' : Addr → Prop} {ad' : AdT} {hp2 : Hp} (H' : SR c s1 O' (U O X) ad' hp2) (t : Step s.heap (fun _ => False) s1.heap O') : SR c s1 O X ad hp := by
  refine hide fun G hG => ?_
  obtain ⟨h', tk, rfl⟩ := H'.same
  obtain ⟨h, tk0, rfl⟩ := H.same
  refine hG ?_
  exact H.stay (tk := tk) fun b x e => t.keep b x (fun z => z) e
theorem callPure {cl : Nat} {C : CallT} (okC : OkC c cl C) (rm : Room A cl) {f : Nat} {args : List RV} {ws : List V} {vs : List Value} {v : V} {hq : Hp} {Q : Value → Shared → Prop} (H : SR c s O X ad hp) (e : valsOf args = some ws)
    (r : RepRVs s.heap (U O X) ad args vs) (ev : C f args [] = some (.val v, hq)) (k : PE c X s O ad (.val v) hp Q) : wpAny (model c.prog c.w) A (call (.ref (c.fA f)) vs) Q NoE s := by
  refine wpAny_call (okC A rm (U O X) (fun _ => False) [] f args [] s vs (.val v) hq _ H.pure ((r.ofL e).avoid fun b q => q.elim (fun z => z.elim) id) ev fun w s' O' ad' H' t p r' => ?_)
  refine k w s' O ad (H.back H' t) ⟨fun b o _ e => t.keep b o (fun z => z) e, fun b q => .inl q⟩ (.refl _) (Rep.avoid (fun b q => .inr q) r')
theorem dropTo_ok {n : Nat} {rv : RV} {rv2 : RV} {hp2 : Hp} {v : Value} {O' : Addr → Prop} {ad' : AdT} (e : dropTo n (rv, hp2) = (rv2, hp')) (hn : ad.length = n) (p : Prefix ad ad') (H : SR c s1 O' X ad' hp2) (r : RepRV s1.heap (U O' X) ad' rv v) :
    ∃ ad2, SR c s1 O' X ad2 hp' ∧ Prefix ad ad2 ∧ RepRV s1.heap (U O' X) ad2 rv2 v := by
  unfold dropTo at e
  split at e
  · rename_i q
    simp only [Bool.and_eq_true] at q
    cases e
    refine ⟨ad'.take n, ⟨H.same, H.keep, H.own, H.oin, H.xin, H.hr.take n q.2⟩, fun i x y => ?_, ?_⟩
    · have hi := (List.getElem?_eq_some_iff.mp y).1
      rw [List.getElem?_take_of_lt (by lia)]
      exact p i x y
    · induction rv with
      | val x => exact r
      | ref i =>
        obtain ⟨a, w, ea, hv⟩ := r
        refine ⟨a, w, ?_, hv⟩
        have hi : i < n := by simpa [refsUnder] using q.1
        rw [List.getElem?_take_of_lt hi]; exact ea
  · cases e
    exact ⟨ad', H, p, r⟩
theorem callImp {cl : Nat} {C : CallT} (okC : OkC c cl C) (rm : Room A cl) {f : Nat} {args : List RV} {vs : List Value} {q : RV × Hp} {rv : RV} {Q : Value → Shared → Prop} (H : SR c s O X ad hp)
    (r : RepRVs s.heap (U O X) ad args vs) (ev : C f args hp = some q) (ed : dropTo hp.length q = (rv, hp')) (k : PE c X s O ad rv hp' Q) : wpAny (model c.prog c.w) A (call (.ref (c.fA f)) vs) Q NoE s := by
  obtain ⟨rv1, hq⟩ := q
  refine wpAny_call (okC A rm X O ad f args hp s vs rv1 hq _ H r ev fun w s' O' ad' H' t p r' => ?_)
  obtain ⟨ad2, H2, p2, r2⟩ := dropTo_ok ed H.hr.len p H' r'
  exact k w s' O' ad2 H2 t p2 r2
theorem callV_e {C : CallT} {f : Nat} {vs : List RV} {z : RV × Hp} {M : Prop} (e : callV C f vs hp = some z) (k1 : ∀ ws v hq, valsOf vs = some ws → C f vs [] = some (.val v, hq) → some (.val v, hp) = some z → M) (k2 : ∀ q, C f vs hp = some q → dropTo hp.length q = z → M) : M := by
  unfold callV at e
  induction h : valsOf vs with
  | none => rw [h] at e; exact vS_e e fun q e1 e => k2 q e1 (Option.some.inj e)
  | some ws =>
    rw [h] at e
    refine obn_e e fun v hq e1 e => ?_
    induction v with
    | val v => exact k1 ws v hq h e1 e
    | ref _ => exact nS e
section
variable {P : Prog} {C : CallT} {r : EV} {K KB : CE → Expr → Bool}
variable (IHE : ∀ ce e, K ce e = true → OkE c A sc X F env e (fun l h => r.E l h ce)) (IHB : ∀ ce e, KB ce e = true → OkB c A sc X F env e (fun l h => r.B l h ce))
include IHB in
theorem b_not {a ea pos} (h1 : KB a ea = true) : OkB c A sc X F env (.UnaryOp .Not ea pos) (fun l h => stepB r l h (.not a)) := fun O ad loc hp s b hp' Q S e k =>
  obn_e e fun x hp1 e1 e => isTrue_not (IHB a ea h1 _ _ _ _ _ _ _ _ S e1 fun s1 O1 ad1 H1 t1 p1 => (k.of e) _ _ _ H1 t1 p1)
include IHB in
theorem b_boo {ia a b ea eb pos} (h1 : KB a ea = true) (h2 : KB b eb = true) : OkB c A sc X F env (.BoolOp (booOf ia) [ea, eb] pos) (fun l h => stepB r l h (.boo ia a b)) := fun O ad loc hp s bb hp' Q S e k => by
  refine obn_e e fun x hp1 e1 e => ?_
  induction ia with
  | true =>
    refine isTrue_and (IHB a ea h1 _ _ _ _ _ _ _ _ S e1 fun s1 O1 ad1 H1 t1 p1 => ?_)
    cases x with
    | true =>
      refine isTrue_and (IHB b eb h2 _ _ _ _ _ _ _ _ (S.step H1 t1 p1) e fun s2 O2 ad2 H2 t2 p2 => ?_)
      have kk := k _ _ _ H2 (t1.trans t2) (p1.trans p2)
      cases bb with
      | true => exact isTrue_and_nil kk
      | false => exact kk
    | false => exact (k.of e) _ _ _ H1 t1 p1
  | false =>
    refine isTrue_or (IHB a ea h1 _ _ _ _ _ _ _ _ S e1 fun s1 O1 ad1 H1 t1 p1 => ?_)
    cases x with
    | false =>
      refine isTrue_or (IHB b eb h2 _ _ _ _ _ _ _ _ (S.step H1 t1 p1) e fun s2 O2 ad2 H2 t2 p2 => ?_)
      have kk := k _ _ _ H2 (t1.trans t2) (p1.trans p2)
      cases bb with
      | true => exact kk
      | false => exact isTrue_or_nil kk
    | true => exact (k.of e) _ _ _ H1 t1 p1
include IHB in
theorem b_ite {t a b et ea eb pos} (h0 : KB t et = true) (h1 : KB a ea = true) (h2 : KB b eb = true) : OkB c A sc X F env (.IfExp et ea eb pos) (fun l h => stepB r l h (.ite t a b)) := fun O ad loc hp s bb hp' Q S e k =>
  obn_e e fun x hp1 e1 e => isTrue_IfExp (IHB t et h0 _ _ _ _ _ _ _ _ S e1 fun s1 O1 ad1 H1 t1 p1 => by
    induction x with
    | true => exact IHB a ea h1 _ _ _ _ _ _ _ _ (S.step H1 t1 p1) e (k.trans t1 p1)
    | false => exact IHB b eb h2 _ _ _ _ _ _ _ _ (S.step H1 t1 p1) e (k.trans t1 p1))
theorem isTrue_of {M : Model} {e : Expr} {Q : Bool → Shared → Prop} {E : Value → Shared → Prop} (hf : plainTest e = true) (h : wpAny M A (eval e env) (fun v s' => wpAny M A (truthy v) Q E s') E s) : wpAny M A (isTrue e env (eval e env)) Q E s := by
  cases e with
  | UnaryOp op x pos => rcases op with _ | _ <;> first | exact isTrue_plain h | exact nB hf
  | BoolOp => exact nB hf
  | IfExp => exact nB hf
  | Compare l ops rs pos =>
    match ops, rs, hf with
    | [op], [r], _ =>
      simp only [isTrue_Compare1]
      rw [eval_Compare1] at h
      have e1 : ∀ (x : Sem Value), (do let a ← eval l env; let b ← holding [a] (markedBehindIn op r (eval r env)); standAt pos; let c ← operate [a, b] (compareOp op a b); holding [c] (truthy c) : Sem Bool) = ((do let a ← eval l env; let b ← holding [a] (markedBehindIn op r (eval r env)); standAt pos; operate [a, b] (compareOp op a b)) >>= fun c => holding [c] (truthy c)) := fun _ => by simp only [bind_assoc]
      rw [e1 (pure .none)]
      exact wpAny_bind (wpAny_mono h (fun v s' h' => wpAny_holding h') fun _ _ x => x)
    | [], _, hf => exact (nomatch (show false = true from hf))
    | _ :: _ :: _, _, hf => exact (nomatch (show false = true from hf))
    | [_], [], hf => exact (nomatch (show false = true from hf))
    | [_], _ :: _ :: _, hf => exact (nomatch (show false = true from hf))
  | _ => exact isTrue_plain h
include IHE in
theorem b_plain {ce e} (h : K ce e = true) (hf : plainTest e = true) (ev : Loc → Hp → Option (Bool × Hp)) (hev : ∀ l h, ev l h = obn (r.E l h ce) fun v hp1 => vB none v fun b => some (b, hp1)) : OkB c A sc X F env e ev := fun O ad loc hp s b hp' Q S eq k =>
  obn_e ((hev _ _).symm.trans eq) fun v hp1 e1 e => isTrue_of hf (IHE ce _ h _ _ _ _ _ _ _ _ S e1 fun v s1 O1 ad1 H1 t1 p1 r1 => rB_e e r1 fun b e => truthy_b ((k.of e) _ _ _ H1 t1 p1))
include IHE in
theorem n_blt {b : Blt} {ces es p pos} (ok : c.OK) (gl : c.Gl) (rm : Room A cl) (h : chkL K ces es = true) (hn : sc.lookup (bltName b) = some .globalImplicit) :
    OkE c A sc X F env (.Call (.Name (bltName b) p) es [] pos) (fun l h => stepE P C r l h (.blt b ces)) := fun O ad loc hp s rv hp' Q S e k => by
  refine obn_e e fun vs hp1 e1 e => vS_e e fun ws e2 e => vS_e e fun z e3 e => Call_Name rfl (load_boot ok S.sr S.en hn ?_ (blt_boot b) (blt_debug b).2 (blt_debug b).1 ?_)
  · rcases b with _ | _ <;> exact gl.blt _ (by decide)
  have fin : wpAny (model c.prog c.w) A (spliced (backTo pos (starEach es env))) (fun vs s₁ => wpAny (model c.prog c.w) A (call (bltVal b) vs) Q NoE s₁) NoE s :=
    n_args pos IHE h S e1 fun vs s1 O1 ad1 H1 t1 p1 r1 => ((k.of e).trans t1 p1).op H1 (p_blt rm.h H1.live (asVs_rep H1.hr e2 r1) e3) fun _ _ r => r
  have hs := chkL_star h
  have hp := noneStar env pos h
  rcases b with _ | _ <;> first
    | exact Calls.callWith_builtin hp (evalArgs_sp hs fin)
    | exact PySem.callWith_type hp (evalArgs_sp hs fin)
include IHE in
theorem n_call {f : Nat} {ces es p pos} (ok : c.OK) (gl : c.Gl) (okC : OkC c cl C) (rm : Room A cl) (h : chkL K ces es = true) (hf : c.fN f ≠ "") (hn : sc.lookup (c.fN f) = some .globalImplicit) :
    OkE c A sc X F env (.Call (.Name (c.fN f) p) es [] pos) (fun l h => stepE P C r l h (.call f ces)) := fun O ad loc hp s rv hp' Q S e k => by
  refine obn_e e fun vs hp1 e1 e => ?_
  refine hide fun G hG => ?_
  obtain ⟨hm, hd, o, fd, ho, hfd⟩ := gl.fn f hf
  refine hG ?_
  refine Call_Name rfl (load_glob ok S.sr S.en hn hm hd ?_)
  refine Calls.callWith_function (o := o) (fd := fd) (evalArgs_sp (chkL_star h) (n_args pos IHE h S e1 fun vs s1 O1 ad1 H1 t1 p1 r1 => ⟨⟨H1.keep _ _ ho, hfd⟩, ?_⟩))
  show wpAny _ A (call (.ref (c.fA f)) ([] ++ vs) []) Q NoE s1
  simp only [List.nil_append]
  exact callV_e e (fun ws v hq e2 e3 e => callPure okC rm H1 e2 r1 e3 ((k.of e).trans t1 p1)) fun q e3 e => callImp okC rm H1 r1 e3 e (k.trans t1 p1)
end
end Mine.Internal
namespace Mine.Internal
open PySem PySem.W PyProof.Rows
variable {c : Cx} {A : Around} {sc : Sc} {O O1 X F : Addr → Prop} {env : Env} {ad ad1 : AdT} {hp hp1 hp' : Hp} {loc : Loc} {s s1 : Shared} {cl : Nat}
theorem base_plain {o : Expr} {attr : Str} {env : Env} {whole : Sem Value} (h : notBare o = true) : attributeBase o attr env whole = whole :=
  cfn (b := onCall o fun f es ks _ => onName f fun _ => es.isEmpty && ks.isEmpty) (y := attributeBase o attr env whole) (by
    clear h
    rcases o with _ | _ <;> first
      | exact @rfl (Sem Value) whole
      | (rename_i f as ks p
         rcases f with _ | _ <;> first | exact @rfl (Sem Value) whole | (rcases as with _ | _ <;> first | exact @rfl (Sem Value) whole | (rcases ks with _ | _ <;> first | exact @rfl (Sem Value) whole | rfl)))) h
theorem all_plain {es : List Expr} {env : Env} {pos : Pos} (hs : ∀ e ∈ es, notStar e = true) : (backTo pos (starEach es env)).all (fun x => !x.1) = true := by
  induction es with
  | nil => rfl
  | cons e es ih =>
    rw [starEach_cons (hs e (.head _))]
    dsimp only [backTo, List.map_cons, List.all_cons, Bool.not_false, Bool.true_and]
    exact ih fun x m => hs x (.tail _ m)
theorem call_attr {o : Expr} {name : Str} {apos pos : Pos} {es : List Expr} {Q : Value → Shared → Prop} (hb : notBare o = true) (hl : (apos.endLine == pos.line) = true) (hs : ∀ e ∈ es, notStar e = true) (hn : es.length < 30)
    (h : wpAny (model c.prog c.w) A (eval o env) (fun ov s1 => ∀ pl : Sem Bool, wpAny (model c.prog c.w) A (getMethod ov name pl) (fun p s2 => wpAny (model c.prog c.w) A (callWith pos p.1 p.2 (backTo pos (starEach es env)) []) Q NoE s2) NoE s1) NoE s) :
    wpAny (model c.prog c.w) A (eval (.Call (.Attribute o name apos) es [] pos) env) Q NoE s := by
  rw [arm_eval_Call, base_plain hb]
  refine wpAny_bind (wpAny_mono h (fun ov s₁ h₁ => ?_) fun _ _ e => e)
  refine wpAny_bind (wpAny_standAt ?_)
  have hfew : methodCallForm (es.length + ([] : List Keyword).length) (backTo pos (starEach es env)) (backToKw pos (keywordEach [] env)) = true := by
    unfold methodCallForm
    rw [all_plain hs]
    simpa [show backToKw pos (keywordEach [] env) = [] from rfl] using hn
  unfold methodCall
  rw [hfew]
  refine wpAny_bind (wpAny_holding (wpAny_mono (h₁ _) (fun p s2 h2 => ?_) fun _ _ e => e))
  have hp : methodCallPos true o env apos pos = pure pos := by
    unfold methodCallPos
    rw [hl]; rfl
  show wpAny _ A (methodCallPos true o env apos pos >>= _) Q NoE s2
  rw [hp]
  exact wpAny_bind (wpAny_pure h2)
theorem SR.turn (H : SR c s O X ad hp) {h' : Heap} {tk : Nat} {i : Nat} {a w : Addr} {xs ys : List V} {vs : List Value} {n : Nat} (ei : ad[i]? = some (a, w)) (eh : hp[i]? = some (.mlst xs)) (k : ∀ b x, b ≠ a → s.heap.get? b = some x → h'.get? b = some x)
    (g : h'.get? a = some (listObj vs n)) (hl : ys.length ≤ 4096) (r : RepL s.heap (U O X) ys vs) : SR c { s with heap := h', toks := tk } O X ad (hp.set i (.mlst ys)) ∧ Step s.heap O h' O := by
  refine hide fun G hG => ?_
  obtain ⟨rfl, hO, _, items, m, hg, hr⟩ := H.hr.obj i _ a w eh ei
  have st : Step s.heap O h' O := Step.set hO k
  refine hG ?_
  exact ⟨H.set ei hO k ⟨_, g⟩ ⟨rfl, hO, hl, vs, n, g, r.step (st.av X)⟩, st⟩
theorem m_append {i : Nat} {a w : Addr} {xs : List V} {x : V} {v : Value} {Q : Value → Shared → Prop} (H : SR c s O X ad hp) (ei : ad[i]? = some (a, w)) (eh : hp[i]? = some (.mlst xs)) (hl : xs.length < 4096) (r : Rep s.heap (U O X) x v)
    (k : ∀ s', SR c s' O X ad (hp.set i (.mlst (xs ++ [x]))) → Step s.heap O s'.heap O → Q .none s') : wpAny (model c.prog c.w) A (call (.builtin "list.append") [.ref a, v]) Q NoE s := by
  obtain ⟨rfl, hO, _, items, m, hg, hr⟩ := H.hr.obj i _ a w eh ei
  refine wpAny_list_append_plain ⟨m, hg⟩ (fun h' ⟨m', hp'⟩ hs => ?_) (by rw [List.size_toArray, hr.length]; exact line_4096 (by omega))
  have q := H.turn (tk := s.toks) (vs := items ++ [v]) (n := m') ei eh (fun b x nb e => hs.extBut b x nb e) (by rw [hp']; simp) (ys := xs ++ [x]) (by simp; lia) (hr.snoc r)
  exact k _ q.1 q.2
theorem m_extend {i : Nat} {a w : Addr} {xs ys : List V} {v : Value} {Q : Value → Shared → Prop} (H : SR c s O X ad hp) (ei : ad[i]? = some (a, w)) (eh : hp[i]? = some (.mlst xs)) (hl : xs.length + ys.length ≤ 4096) (r : Rep s.heap (U O X) (.lst ys) v)
    (k : ∀ s', SR c s' O X ad (hp.set i (.mlst (xs ++ ys))) → Step s.heap O s'.heap O → Q .none s') : wpAny (model c.prog c.w) A (call (.builtin "list.extend") [.ref a, v]) Q NoE s := by
  obtain ⟨rfl, hO, _, items, m, hg, hr⟩ := H.hr.obj i _ a w eh ei
  obtain ⟨b, its2, n2, rfl, nb, hb, hl2, r2⟩ := r
  have hsz : items.length + its2.length ≤ 4096 := by simp only [hr.length, r2.length]; exact hl
  refine call_meets PySem.F.slot_list_extend ⟨_, hg, rfl⟩ PySem.F.entry_list_extend (PySem.F.args_list_extend_2 _ _)
    (AutoSeq1.list_extend_list_list_0 w items.toArray m b its2.toArray n2 (extend_door (by simp only [List.size_toArray]; exact line_4096 hsz)) (by simp only [List.size_toArray]; exact line_4096 (by lia))) ⟨hg, hb, ?_⟩
  have e : items.toArray ++ its2.toArray = (items ++ its2).toArray := by simp
  have ho' : ∃ n', (s.heap.update w (Obj.mapSeq fun x => x ++ its2.toArray)).get? w = some (listObj (items ++ its2) n') :=
    ⟨_, by rw [Heap.get?_update_self _ hg (by rw [mapSeq_app]; rfl), mapSeq_app, e]⟩
  obtain ⟨n', ho'⟩ := ho'
  have q := H.turn (tk := s.toks) ei eh (fun b x nb e => (Heap.SameBut.update ..).extBut b x nb e) ho' (by simpa using hl) (hr.append r2)
  exact k _ q.1 q.2
theorem m_pop {i : Nat} {a w : Addr} {xs : List V} {x : V} {Q : Value → Shared → Prop} (H : SR c s O X ad hp) (ei : ad[i]? = some (a, w)) (eh : hp[i]? = some (.mlst xs)) (hx : xs.getLast? = some x)
    (k : ∀ v s', SR c s' O X ad (hp.set i (.mlst xs.dropLast)) → Step s.heap O s'.heap O → Rep s'.heap (U O X) x v → Q v s') : wpAny (model c.prog c.w) A (call (.builtin "list.pop") [.ref a]) Q NoE s := by
  refine hide fun G hG => ?_
  obtain ⟨rfl, hO, hl, items, m, hg, hr⟩ := H.hr.obj i _ a w eh ei
  have hne : xs ≠ [] := by rintro rfl; exact nS hx
  have hxs : xs = xs.dropLast ++ [x] := by
    rw [List.getLast?_eq_some_getLast hne] at hx
    obtain rfl := Option.some.inj hx
    exact (List.dropLast_concat_getLast hne).symm
  have hn : items.length = xs.length := hr.length
  obtain ⟨p, y, hp⟩ : ∃ p y, items = p ++ [y] := by
    have : items ≠ [] := by rintro rfl; exact hne (List.length_eq_zero_iff.mp hn.symm)
    exact ⟨items.dropLast, items.getLast this, (List.dropLast_concat_getLast this).symm⟩
  subst hp
  have hlen : p.length = xs.dropLast.length := by rw [List.length_dropLast, ← hn]; simp
  have hsp : RepL s.heap (U O X) xs.dropLast p ∧ Rep s.heap (U O X) x y := by
    rw [hxs] at hr
    have h1 := hr.take p.length
    have h2 := hr.drop p.length
    rw [List.take_left' rfl, List.take_left' hlen.symm] at h1
    rw [List.drop_left' rfl, List.drop_left' hlen.symm] at h2
    obtain ⟨v', r', e', rv, _⟩ := h2
    cases e'
    exact ⟨h1, rv⟩
  have hz' : (p ++ [y]).toArray.size ≤ sizeLine := by rw [List.size_toArray, hn]; exact line_4096 hl
  have hk : (p ++ [y]).toArray.size - 1 = p.length := by rw [List.size_toArray, List.length_append]; rfl
  have hy : (p ++ [y]).toArray[(p ++ [y]).toArray.size - 1]? = some y := by rw [hk]; simp
  refine hG ?_
  refine call_meets PySem.F.slot_list_pop ⟨_, hg, rfl⟩ PySem.F.entry_list_pop (PySem.F.args_list_pop_1 _) (PySem.MeetsSeq.list_pop_last w _ m y hy hz') ⟨hg, ?_⟩
  have ho' : ∃ n', (s.heap.update w (Obj.mapSeq fun xs => xs.eraseIdxIfInBounds ((p ++ [y]).toArray.size - 1))).get? w = some (listObj p n') := by
    have q := PySem.IsL.update hg (fun xs => xs.eraseIdxIfInBounds ((p ++ [y]).toArray.size - 1))
    rw [hk, kl_erase, List.append_nil] at q
    exact ⟨_, by rw [hk]; exact q⟩
  obtain ⟨n', ho'⟩ := ho'
  have q := H.turn (tk := s.toks) ei eh (fun b x nb e => (Heap.SameBut.update ..).extBut b x nb e) ho' (by rw [List.length_dropLast]; lia) hsp.1
  exact k y _ q.1 q.2 (hsp.2.step (q.2.av X))
theorem m_setAt {i : Nat} {a w : Addr} {xs : List V} {x : V} {v : Value} {j : Int} {t : Tok} {p : Nat} {Q : Unit → Shared → Prop} (H : SR c s O X ad hp) (ei : ad[i]? = some (a, w)) (eh : hp[i]? = some (.mlst xs)) (hj : posIdx xs.length j = some p) (r : Rep s.heap (U O X) x v)
    (k : ∀ s', SR c s' O X ad (hp.set i (.mlst (xs.set p x))) → Step s.heap O s'.heap O → Q () s') : wpAny (model c.prog c.w) A (setItem (.ref a) (.int j t) v) Q NoE s := by
  obtain ⟨rfl, hO, hl, items, m, hg, hr⟩ := H.hr.obj i _ a w eh ei
  have hn : items.length = xs.length := hr.length
  have fin : Q () { s with heap := s.heap.update w (Obj.mapSeq (·.setIfInBounds p v)) } := by
    have ho' : ∃ n', (s.heap.update w (Obj.mapSeq (·.setIfInBounds p v))).get? w = some (listObj (items.set p v) n') := by
      have q := PySem.IsL.update hg (·.setIfInBounds p v)
      rw [show items.toArray.setIfInBounds p v = (items.set p v).toArray by simp] at q
      exact ⟨_, q⟩
    obtain ⟨n', ho'⟩ := ho'
    have q := H.turn (tk := s.toks) ei eh (fun b x nb e => (Heap.SameBut.update ..).extBut b x nb e) ho' (by simpa using hl) (hr.set p r)
    exact k _ q.1 q.2
  unfold posIdx at hj
  split at hj
  · rename_i h0
    split at hj
    · rename_i h1
      obtain rfl := Option.some.inj hj
      exact ki_setAt hg h0 (by lia) (by simp only [List.size_toArray, hn]; lia) fin
    · injection hj
  · rename_i h0
    split at hj
    · rename_i h1
      obtain rfl := Option.some.inj hj
      have hl' : s.heap.IsList w items.toArray := isList_of hg
      unfold setItem
      try with_reducible refine wpAny_holding ?_
      first | refine wpAny_bind (wpAny_pure ?_) | skip
      refine wpAny_bind (wpAny_sequenceKey hl'.typeIs (by decide) ?_)
      refine wpAny_bind (wpAny_callSpecial?_slot (name := Str.ofString "__setitem__") hl'.typeIs slot_list_setitem
        (wpAny_call_entry slot_list_setitem hl'.typeIs entry_list_setitem ?_ (args_list_setitem _ _ _)))
      show wpAny _ _ (Builtin.List.listSubscript? (.int j t) >>= _) _ _ s
      refine wpAny_bind (wpAny_listSubscript_int (fitsIndex_neg (by lia) (by lia)) ?_)
      have hidx : seqIndex? j items.toArray.size = some (j + xs.length).toNat := by simp only [List.size_toArray, hn]; exact MeetsSeq.seqIndex_neg (by lia) h1
      have hlt : (j + xs.length).toNat < items.length := by lia
      have hx' : items.toArray[(j + xs.length).toNat]? = some items[(j + xs.length).toNat] := by simp [hlt]
      have f := fin
      generalize (j + (xs.length : Int)).toNat = z at *
      obtain ⟨q, rfl⟩ : ∃ q : Nat, j = Int.negSucc q := by
        induction j with
        | ofNat n => exact absurd (Int.natCast_nonneg n) h0
        | negSucc n => exact ⟨n, rfl⟩
      refine wpAny_bind (wpAny_bind ?_)
      refine wpAny_bind (wpAny_seqItems hg rfl (wpAny_pure (wpAny_pure ?_)))
      rw [hidx]
      simp only [Option.bind_some, hx', Option.map_some]
      refine wpAny_bind (wpAny_setSeqItemAt hg rfl ?_)
      first
        | exact wpAny_bind (wpAny_pure (wpAny_pure ⟨.none, rfl, wpAny_pure f⟩))
        | exact wpAny_pure ⟨.none, rfl, wpAny_pure f⟩
    · injection hj
theorem m_dictSet {i : Nat} {a w : Addr} {n : Nat} {v : Value} {j : Int} {t : Tok} {Q : Unit → Shared → Prop} (H : SR c s O X ad hp) (ei : ad[i]? = some (a, w)) (eh : hp[i]? = some (.idict n)) (hn : n < 64)
    (k : ∀ s', SR c s' O X ad (hp.set i (.idict (n + 1))) → Step s.heap O s'.heap O → Q () s') : wpAny (model c.prog c.w) A (setItem (.ref a) (.int j t) v) Q NoE s := by
  obtain ⟨rfl, hO, x, hx, hf⟩ := H.hr.obj i _ a w eh ei
  obtain ⟨⟨f, hm⟩, hd⟩ := hf _ hx
  refine wpAny_setItem_intMap_le hm hd (line_4096 (by lia)) fun h' hm' hd' hs => ?_
  refine hide fun G hG => ?_
  obtain ⟨o, es, ep, ho, r⟩ := id hm'
  refine hG ?_
  refine k _ (H.set (h' := h') (tk := s.toks + 1) (o := .idict (n + 1)) ei hO (fun b x nb e => hs.extBut b x nb e) ⟨o, ho⟩ ⟨rfl, hO, o, ho, fun h2 e2 => ⟨⟨_, o, es, ep, e2, r⟩, hd'.of_same ho e2⟩⟩) (Step.set hO fun b x nb e => hs.extBut b x nb e)
end Mine.Internal
namespace Mine.Internal
open PySem PySem.W PyProof.Rows
variable {c : Cx} {A : Around} {sc : Sc} {O O1 X F : Addr → Prop} {env : Env} {ad ad1 : AdT} {hp hp1 hp' : Hp} {loc : Loc} {s s1 : Shared} {cl : Nat}
structure Cx.Cl (c : Cx) (flds : List Nat) : Prop where
  get : ∀ k, k < 3 → plainGet c.K (c.cA k) "" = true ∧ hasDictIn c.K (c.cA k) = true ∧ findIn c.K (.ref (c.cA k)) "__setattr__" = some (some (.builtin "object.__setattr__")) ∧ plainOver c.K (c.cA k) = true ∧ makesIn c.K (c.cA k) = true ∧ keepIn c.K (.ref (c.cA k)) = true
  fld : ∀ k, k < 3 → ∀ f ∈ flds, f < c.N ∧ findIn c.K (.ref (c.cA k)) (c.nm f) = some none
  meth : ∀ k m f, c.P.meth k m = some f → k < 3 ∧ m < c.N ∧ findIn c.K (.ref (c.cA k)) (c.nm m) = some (some (.ref (c.fA f))) ∧ isFn c.K (.ref (c.fA f)) = true ∧ keepIn c.K (.ref (c.fA f)) = true
  init : ∀ k f, c.P.init k = some f → k < 3 ∧ findIn c.K (.ref (c.cA k)) "__init__" = some (some (.ref (c.fA f))) ∧ typeIn c.K (.ref (c.fA f)) = some (.type "function")
theorem Rep.handed {h : Heap} {O : Addr → Prop} {x : V} {v : Value} (r : Rep h O x v) : handedIn v = true := by
  cases x with
  | none => subst r; rfl
  | bool b => subst r; rfl
  | int i => obtain ⟨t, rfl⟩ := r; rfl
  | str i => obtain ⟨_, t, rfl⟩ := r; rfl
  | tup vs => obtain ⟨a, its, n, rfl, _⟩ := r; rfl
  | lst vs => obtain ⟨a, its, n, rfl, _⟩ := r; rfl
  | rng a b st => obtain ⟨a, _, _, _, rfl, _⟩ := r; rfl
theorem RepRV.handed {h : Heap} {O : Addr → Prop} {x : RV} {v : Value} (r : RepRV h O ad x v) : handedIn v = true := by
  induction x with
  | val x => exact Rep.handed r
  | ref i => obtain ⟨a, w, _, rfl⟩ := r; rfl
theorem inst_at {h : Heap} {a w C : Addr} {es : List DictEntry} {n : Nat} (hg : h.get? a = some (instObj C w)) (hd : h.get? w = some (dictOf es n)) : InstAt h a (instObj C w) C (some (dictOf es n)) :=
  ⟨hg, rfl, rfl, hd⟩
theorem putL_c {name : Str} {hsh : Int} {key v : Value} {e : DictEntry} {r : List DictEntry} : putL name hsh key v (e :: r) = if (e.key.isStr name) = true then ⟨e.hash, e.key, v⟩ :: r else e :: putL name hsh key v r := rfl
theorem find_put_ne {x name : Str} (h : x ≠ name) {hsh : Int} {t : Tok} {v : Value} (es : List DictEntry) : (putL name hsh (.str name t) v es).find? (·.key.isStr x) = es.find? (·.key.isStr x) := by
  induction es with
  | nil => exact List.find?_cons_of_neg (show ¬ ((name == x) = true) from fun e => h (beq_iff_eq.mp e).symm)
  | cons e r ih =>
    rw [putL_c]
    by_cases q : e.key.isStr name = true
    · rw [if_pos q]
      have z : ¬ (e.key.isStr x = true) := fun z => h (Value.isStr_inj _ _ _ z q)
      exact (List.find?_cons_of_neg (p := fun y : DictEntry => y.key.isStr x) (a := ⟨e.hash, e.key, v⟩) z).trans (List.find?_cons_of_neg (p := fun y : DictEntry => y.key.isStr x) z).symm
    · rw [if_neg q, List.find?_cons, List.find?_cons, ih]
theorem any_put {name : Str} {hsh : Int} {t : Tok} {v : Value} (es : List DictEntry) : (putL name hsh (.str name t) v es).any (·.refKey) = es.any (·.refKey) := by
  induction es with
  | nil => rfl
  | cons e r ih =>
    rw [putL_c]
    by_cases q : e.key.isStr name = true
    · rw [if_pos q]; rfl
    · rw [if_neg q, List.any_cons, List.any_cons, ih]
theorem getL_put_ne {x name : Str} (h : x ≠ name) {hsh : Int} {t : Tok} {v : Value} (es : List DictEntry) : getL x (putL name hsh (.str name t) v es) = getL x es := by
  unfold getL
  rw [find_put_ne h, any_put]
theorem find_put {name : Str} {hsh : Int} {t : Tok} {v : Value} (es : List DictEntry) : ∃ e, (putL name hsh (.str name t) v es).find? (·.key.isStr name) = some e ∧ e.val = v := by
  induction es with
  | nil => exact ⟨_, List.find?_cons_of_pos (show (name == name) = true from beq_self_eq_true _), rfl⟩
  | cons e r ih =>
    rw [putL_c]
    by_cases q : e.key.isStr name = true
    · rw [if_pos q]; exact ⟨_, List.find?_cons_of_pos q, rfl⟩
    · rw [if_neg q, List.find?_cons_of_neg (p := fun y : DictEntry => y.key.isStr name) q]; exact ih
theorem getL_put {name : Str} {hsh : Int} {t : Tok} {v : Value} (es : List DictEntry) : getL name (putL name hsh (.str name t) v es) = some (some v) := by
  obtain ⟨e, h, hv⟩ := find_put (name := name) (hsh := hsh) (t := t) (v := v) es
  unfold getL
  rw [h]
  exact congrArg (fun v => some (some v)) hv
theorem getL_any {name : Str} {es : List DictEntry} {v : Value} (g : getL name es = some (some v)) : es.any (·.key.isStr name) = true := by
  unfold getL at g
  induction q : es.find? (·.key.isStr name) with
  | some en => exact List.any_eq_true.mpr ⟨en, List.mem_of_find?_eq_some q, List.find?_some (p := fun y : DictEntry => y.key.isStr name) q⟩
  | none =>
    rw [q] at g
    by_cases z : es.any (·.refKey) = true
    · exact nS ((if_pos z).symm.trans g)
    · exact nS (Option.some.inj ((if_neg z).symm.trans g))
theorem len_put {name : Str} {hsh : Int} {key v : Value} (es : List DictEntry) : (putL name hsh key v es).length = if es.any (·.key.isStr name) = true then es.length else es.length + 1 := by
  induction es with
  | nil => rfl
  | cons e r ih =>
    rw [putL_c, List.any_cons]
    by_cases q : e.key.isStr name = true
    · rw [if_pos q, q]; rfl
    · rw [if_neg q, Bool.eq_false_iff.mpr q, Bool.false_or, List.length_cons, ih]
      by_cases z : r.any (·.key.isStr name) = true
      · rw [if_pos z, if_pos z]; rfl
      · rw [if_neg z, if_neg z]; rfl
theorem len_setL {x : Nat} {v : RV} (fs : List (Nat × RV)) : fs.length ≤ (setL x v fs).length ∧ (lookupL x fs = none → (setL x v fs).length = fs.length + 1) := by
  induction fs with
  | nil => exact ⟨Nat.zero_le _, fun _ => rfl⟩
  | cons p r ih =>
    by_cases h : x = p.1
    · rw [show setL x v (p :: r) = (x, v) :: r from if_pos h, show lookupL x (p :: r) = some p.2 from if_pos h]
      exact ⟨Nat.le_refl _, fun e => nS e.symm⟩
    · rw [show setL x v (p :: r) = p :: setL x v r from if_neg h, show lookupL x (p :: r) = lookupL x r from if_neg h]
      exact ⟨Nat.succ_le_succ ih.1, fun e => congrArg (· + 1) (ih.2 e)⟩
theorem FieldsRel.put (ok : c.OK) {h h' : Heap} {fs : List (Nat × RV)} {es : List DictEntry} {f : Nat} {rv : RV} {v : Value} {hsh : Int} {t : Tok} (r : FieldsRel c h O X ad fs es) (hf : f < c.N)
    (k : ∀ rv v, RepRV h (U O X) ad rv v → RepRV h' (U O X) ad rv v) (rr : RepRV h' (U O X) ad rv v) : FieldsRel c h' O X ad (setL f rv fs) (putL (c.nm f) hsh (.str (c.nm f) t) v es) := by
  obtain ⟨h1, h2, h3⟩ := r
  refine ⟨?_, fun g rg e => ?_, fun x hx => ?_⟩
  · rw [len_put]
    have q := len_setL (x := f) (v := rv) fs
    by_cases z : es.any (·.key.isStr (c.nm f)) = true
    · rw [if_pos z]; exact Nat.le_trans h1 q.1
    · rw [if_neg z]
      induction y : lookupL f fs with
      | none => rw [q.2 y]; exact Nat.succ_le_succ h1
      | some rv' =>
        obtain ⟨_, v', g, _⟩ := h2 f rv' y
        exact absurd (getL_any g) z
  · rw [lookupL_setL] at e
    by_cases z : g = f
    · subst z; rw [if_pos rfl] at e; obtain rfl := Option.some.inj e
      exact ⟨hf, v, getL_put _, rr⟩
    · rw [if_neg z] at e
      obtain ⟨lg, v', gg, r'⟩ := h2 g rg e
      exact ⟨lg, v', by rw [getL_put_ne (fun y => z (ok.inj _ _ lg hf y))]; exact gg, k _ _ r'⟩
  · have nx : x ≠ c.nm f := fun y => hx f rv (by rw [lookupL_setL, if_pos rfl]) y.symm
    rw [getL_put_ne nx]
    refine h3 x fun g rg e y => ?_
    by_cases z : g = f
    · subst z; exact nx y.symm
    · exact hx g rg (by rw [lookupL_setL, if_neg z]; exact e) y
section
variable {prog : Program} {w : World}
theorem osa_at {K : Frag} {C x dx : Addr} {ox : Obj} {name : Str} {tk : Tok} {v : Value} {es es' : List DictEntry} {n n' : Nat} {R : Result → Shared → Prop} (X : K.In s.heap)
    (I : InstAt s.heap x ox C (some (dictOf es n))) (hd : ox.dict = some dx) (hp : plainOver K C = true) (ht : takerIn K C name = some none) (hh : hasDictIn K C = true)
    (hl : (getL name es).isSome = true) (e : Obj.putName name (PyData.keyHash w.params name) (.str name s.toks) v (dictOf es n) = dictOf es' n') (hz : es'.length ≤ 1000)
    (h : ∀ h', Heap.SameBut dx s.heap h' → h'.get? dx = some (dictOf es' n') → R (.ok (.ret .none)) { s with heap := h', toks := s.toks + 1 }) :
    codeAny (model prog w) A (.call (.builtin "object.__setattr__") ⟨[.ref x, .str name tk, v], []⟩) R s := by
  refine osa_open X I hp ht fun b => ?_
  obtain ⟨cd, hc, hd'⟩ := any_some hh
  obtain ⟨hx, hcl, hn, hdd⟩ := I
  obtain ⟨oc, odi, oda, osl⟩ := ox
  dsimp only at hcl hd hdd
  subst hcl hd
  dsimp only at hdd
  have D' : (s.heap.update dx (Obj.putName name (PyData.keyHash w.params name) (.str name s.toks) v)).get? dx = some (dictOf es' n') := by
    rw [Heap.get?_update_self _ hdd (by rw [e]; rfl), e]
  refine wpAny_bind (wpAny_pure (wpAny_bind (wpAny_bind (wpAny_loadPart hx (wpAny_bind ((looks_clsIn X hc).here ?_))))))
  rw [hd']
  refine wpAny_pure (a := some dx) (wpAny_bind (wpAny_pure (wpAny_bind ?_)))
  unfold nsSet
  refine wpAny_bind (wpAny_bind (wpAny_askSetting (wpAny_pure (wpAny_bind (wpAny_mkText (wpAny_bind (wpAny_loadPart hdd ?_)))))))
  dsimp only
  have c : (!es.toArray.any (·.key.isStr name) && es.toArray.any (·.refKey)) = false := by
    rw [← Array.any_toList, ← Array.any_toList]
    unfold getL at hl
    split at hl
    · rename_i en he
      rw [List.any_eq_true.mpr ⟨en, List.mem_of_find?_eq_some he, List.find?_some he⟩]; rfl
    · split at hl
      · exact nB hl
      · rename_i z; rw [Bool.not_eq_true] at z; rw [z, Bool.and_false]
  rw [aRefKeyMayBeTheName_at, c]
  refine wpAny_updatePart hdd ?_
  refine wpAny_bind (wpAny_lookBehind D' (pastItsLine_dict (by rw [List.size_toArray, sizeLine_eq]; lia)) ?_)
  exact wpAny_pure (h _ (Heap.SameBut.update ..) D')
end
theorem taker_none {K : Frag} {C : Addr} {name : Str} (h : findIn K (.ref C) name = some none) : takerIn K C name = some none := by unfold takerIn; rw [h]; rfl
theorem m_attr {flds : List Nat} (cls : c.Cl flds) (ok : c.OK) (H : SR c s O X ad hp) {i k f : Nat} {a w : Addr} {fs : List (Nat × RV)} {rv : RV} {Q : Value → Shared → Prop} {b : Bool} (ei : ad[i]? = some (a, w)) (eh : hp[i]? = some (.inst k fs)) (hf : f ∈ flds)
    (hl : lookupL f fs = some rv) (q : ∀ v tk, RepRV s.heap (U O X) ad rv v → Q v { s with toks := tk }) : wpAny (model c.prog c.w) A (getAttr (.ref a) (c.nm f) b) Q NoE s := by
  obtain ⟨hk, hO, na, hg, es, n, hd, h1, h2, h3⟩ := H.hr.obj i _ a w eh ei
  obtain ⟨_, v, gv, r⟩ := h2 f rv hl
  obtain ⟨g1, g2, g3, g4, g5, g6⟩ := cls.get k hk
  have X₀ := ok.kin.keeps H.keep
  exact get_value X₀ (inst_at hg hd) (plainGet_of g1).1 (findObj_own (od := dictOf es n) g2 (cls.fld k hk f hf).2 rfl (by rw [lookIn_dict]; exact gv)) r.handed (q v _ r)
theorem m_setattr {flds : List Nat} (cls : c.Cl flds) (ok : c.OK) (H : SR c s O X ad hp) {i k f : Nat} {a w : Addr} {fs : List (Nat × RV)} {rv : RV} {v : Value} {Q : Unit → Shared → Prop} (ei : ad[i]? = some (a, w)) (eh : hp[i]? = some (.inst k fs)) (hf : f ∈ flds)
    (hn : fs.length < 50) (r : RepRV s.heap (U O X) ad rv v) (q : ∀ s', SR c s' O X ad (hp.set i (.inst k (setL f rv fs))) → Step s.heap O s'.heap O → Q () s') : wpAny (model c.prog c.w) A (setAttr (.ref a) (c.nm f) v) Q NoE s := by
  obtain ⟨hk, hO, na, hg, es, n, hd, hfr⟩ := H.hr.obj i _ a w eh ei
  obtain ⟨g1, g2, g3, g4, g5, g6⟩ := cls.get k hk
  obtain ⟨lf, hfi⟩ := cls.fld k hk f hf
  have X₀ := ok.kin.keeps H.keep
  have hl : (getL (c.nm f) es).isSome = true := by
    obtain ⟨_, h2, h3⟩ := hfr
    induction y : lookupL f fs with
    | some rv' => obtain ⟨_, v', g, _⟩ := h2 f rv' y; rw [g]; rfl
    | none =>
      rw [h3 (c.nm f) fun g rg e z => ?_]; rfl
      have := ok.inj _ _ (h2 g rg e).1 lf z
      subst this
      rw [y] at e; exact nS e
  have hlen : (putL (c.nm f) (PyData.keyHash c.w.params (c.nm f)) (.str (c.nm f) (s.toks + 1)) v es).length ≤ 1000 := by
    rw [len_put]; have := hfr.1; split <;> lia
  refine set_plain X₀ (inst_at hg hd) g3 (osa_at (s := { s with toks := s.toks + 1 }) (X := X₀) (inst_at hg hd) rfl g4 (taker_none hfi) g2 hl (putName_dict ..) hlen fun h' hs hd' => ?_)
  have hk' : ∀ b x, b ≠ w → s.heap.get? b = some x → h'.get? b = some x := fun b x nb e => hs.extBut b x nb e
  have st : Step s.heap O h' O := Step.set hO hk'
  have naw : a ≠ w := fun z => na (z ▸ hO)
  exact q _ (H.set (tk := s.toks + 1 + 1) (o := .inst k (setL f rv fs)) ei hO hk' ⟨_, hd'⟩ ⟨hk, hO, na, hk' a _ naw hg, _, _, hd', hfr.put ok lf (fun rv v r => r.step (st.av X) (.refl _)) (r.step (st.av X) (.refl _))⟩) st
theorem m_meth {flds : List Nat} (cls : c.Cl flds) (ok : c.OK) (H : SR c s O X ad hp) {i k m f : Nat} {a w : Addr} {fs : List (Nat × RV)} {pl : Sem Bool} {Q : Value × List Value → Shared → Prop} (ei : ad[i]? = some (a, w)) (eh : hp[i]? = some (.inst k fs))
    (hm : c.P.meth k m = some f) (hl : lookupL m fs = none) (q : Q (.ref (c.fA f), [.ref a]) s) : wpAny (model c.prog c.w) A (getMethod (.ref a) (c.nm m) pl) Q NoE s := by
  obtain ⟨_, hO, na, hg, es, n, hd, h1, h2, h3⟩ := H.hr.obj i _ a w eh ei
  obtain ⟨hk, lm, hf, hfn, hkp⟩ := cls.meth k m f hm
  obtain ⟨g1, g2, g3, g4, g5, g6⟩ := cls.get k hk
  have X₀ := ok.kin.keeps H.keep
  have hgl : getL (c.nm m) es = some none := h3 (c.nm m) fun g rg e z => by
    have := ok.inj _ _ (h2 g rg e).1 lm z
    subst this
    rw [hl] at e; exact nS e
  exact method_fn X₀ (inst_at hg hd) (plainGet_of g1).1 (plainGet_of g1).2 hf (beq_iff_eq.mp hfn) (by show (lookIn (c.nm m) (dictOf es n)).map _ = _; rw [lookIn_dict, hgl]; rfl) q
end Mine.Internal
namespace Mine.Internal
open PySem PySem.W PyProof.Rows
variable {c : Cx} {A : Around} {sc : Sc} {O O1 X F : Addr → Prop} {env : Env} {ad ad1 : AdT} {hp hp1 hp' : Hp} {loc : Loc} {s s1 : Shared} {cl : Nat} {flds : List Nat}
theorem dictFact_new (h : Heap) : DictFact h.objs.size 0 { cls := .type "dict", data := .dict #[] } := fun h2 e2 => by
  obtain ⟨o, es, ep, ho, r⟩ := Heap.IntMap.new h
  have hx : (h.push { cls := .type "dict", data := .dict #[] }).get? h.objs.size = some { cls := .type "dict", data := .dict #[] } := Heap.get?_push_size _ rfl
  rw [hx] at ho; obtain rfl := Option.some.inj ho
  exact ⟨⟨_, _, es, ep, e2, r⟩, fun o es ep ho hd => by rw [e2] at ho; obtain rfl := Option.some.inj ho; cases hd; exact Nat.le_refl _⟩
section
variable {P : Prog} {C : CallT} {r : EV} {K KB : CE → Expr → Bool}
variable (IHE : ∀ ce e, K ce e = true → OkE c A sc X F env e (fun l h => r.E l h ce))
theorem n_edict {pos} : OkE c A sc X F env (.Dict [] [] pos) (fun l h => stepE P C r l h .edict) := fun O ad loc hp s rv hp' Q S e k => by
  obtain ⟨rfl, rfl⟩ := Prod.mk.inj (Option.some.inj e)
  rw [eval_Dict_empty]
  refine wpAny_bind (wpAny_standAt (wpAny_newObj_type ?_))
  have kp := Kp.push s.heap { cls := .type "dict", data := .dict #[] }
  have hw := size_none s.heap
  have hx : (s.heap.push { cls := .type "dict", data := .dict #[] }).get? s.heap.objs.size = some { cls := .type "dict", data := .dict #[] } := Heap.get?_push_size _ rfl
  exact k (.ref s.heap.objs.size) _ _ _ (S.sr.push (tk := s.toks) (a := s.heap.objs.size) (w := s.heap.objs.size) (o := .idict 0) kp hw ⟨_, hx⟩ ⟨rfl, .inr rfl, _, hx, dictFact_new _⟩)
      (Step.push kp hw) (.snoc _ _) ⟨_, s.heap.objs.size, by rw [← S.sr.hr.len, List.getElem?_append_right (Nat.le_refl _)]; simp, rfl⟩
include IHE in
theorem n_attr {o eo f pos} (cls : c.Cl flds) (ok : c.OK) (h : K o eo = true) (hb : notBare eo = true) (hf : f ∈ flds) : OkE c A sc X F env (.Attribute eo (c.nm f) pos) (fun l h => stepE P C r l h (.attr o f)) := fun O ad loc hp s rv hp' Q S e k => by
  refine obn_e e fun x hp1 e1 e => ?_
  rw [arm_eval_Attribute, base_plain hb]
  exact wpAny_bind (IHE o eo h _ _ _ _ _ _ _ _ S e1 fun v1 s1 O1 ad1 H1 t1 p1 r1 => wpAny_bind (wpAny_standAt (wpAny_bind (wpAny_holding (rRef_e e r1 fun i a w ea e => hIn_e e fun kk fs e2 e => vS_e e fun v e3 e =>
    m_attr cls ok H1 ea e2 hf e3 fun v tk rv => wpAny_bind (wpAny_letTemporaryGo (wpAny_pure (((k.of e).trans t1 p1).now H1 rv tk))))))))
theorem list_meth {name : Str} {id : String} {pl : Sem Bool} {i : Nat} {a w : Addr} {xs : List V} {Q : Value × List Value → Shared → Prop} (H : SR c s O X ad hp) (ei : ad[i]? = some (a, w)) (eh : hp[i]? = some (.mlst xs)) (slot : Slot "list" name id)
    (hty : typeOf (.builtin id) = pure (.type "method_descriptor")) (q : Q (.builtin id, [.ref a]) s) : wpAny (model c.prog c.w) A (getMethod (.ref a) name pl) Q NoE s := by
  obtain ⟨rfl, hO, hl, items, m, hg, hr⟩ := H.hr.obj i _ a w eh ei
  exact getMethod_list_of slot hty (isList_of hg) ⟨_, hg, rfl⟩ q
include IHE in
theorem n_app {o e1 eo ee apos pos} (h1 : K o eo = true) (h2 : K e1 ee = true) (hs : notStar ee = true) (hb : notBare eo = true) (hl : (apos.endLine == pos.line) = true) :
    OkE c A sc X F env (.Call (.Attribute eo "append" apos) [ee] [] pos) (fun l h => stepE P C r l h (.app o e1)) := fun O ad loc hp s rv hp' Q S e k =>
  have hss : ∀ e ∈ [ee], notStar e = true := fun e m => List.mem_singleton.mp m ▸ hs
  obn_e e fun x hp1 q1 e => call_attr hb hl hss (by simp) (IHE o eo h1 _ _ _ _ _ _ _ _ S q1 fun v1 s1 O1 ad1 H1 t1 p1 r1 pl => rRef_e e r1 fun i a w ea e => hML_e e fun _ q0 e => obn_e e fun y hp2 q2 e =>
    list_meth H1 ea q0 PySem.F.slot_list_append PySem.F.type_list_append (Calls.callWith_builtin (by rw [starEach_cons hs]; rfl) (evalArgs_sp hss (args_cons (IHE e1 ee h2 _ _ _ _ _ _ _ _ (S.step H1 t1 p1) q2 fun v2 s2 O2 ad2 H2 t2 p2 r2 =>
      rVal_e e r2 fun y _ r e => hML_e e fun xs q3 e => oIf_e e fun hl4 e => args_nil (m_append H2 (p2 _ _ ea) q3 hl4 r fun s3 H3 t3 => (k.of e) .none s3 O2 ad2 H3 ((t1.trans t2).trans t3) (p1.trans p2) rfl)) (starEach_cons hs _ _)))))
include IHE in
theorem n_ext {o e1 eo ee apos pos} (h1 : K o eo = true) (h2 : K e1 ee = true) (hs : notStar ee = true) (hb : notBare eo = true) (hl : (apos.endLine == pos.line) = true) :
    OkE c A sc X F env (.Call (.Attribute eo "extend" apos) [ee] [] pos) (fun l h => stepE P C r l h (.ext o e1)) := fun O ad loc hp s rv hp' Q S e k =>
  have hss : ∀ e ∈ [ee], notStar e = true := fun e m => List.mem_singleton.mp m ▸ hs
  obn_e e fun x hp1 q1 e => call_attr hb hl hss (by simp) (IHE o eo h1 _ _ _ _ _ _ _ _ S q1 fun v1 s1 O1 ad1 H1 t1 p1 r1 pl => rRef_e e r1 fun i a w ea e => hML_e e fun _ q0 e => obn_e e fun y hp2 q2 e =>
    list_meth H1 ea q0 PySem.F.slot_list_extend PySem.F.type_list_extend (Calls.callWith_builtin (by rw [starEach_cons hs]; rfl) (evalArgs_sp hss (args_cons (IHE e1 ee h2 _ _ _ _ _ _ _ _ (S.step H1 t1 p1) q2 fun v2 s2 O2 ad2 H2 t2 p2 r2 =>
      rLst_e e r2 fun vs r e => hML_e e fun xs q3 e => oIf_e e fun hl4 e => args_nil (m_extend H2 (p2 _ _ ea) q3 hl4 r fun s3 H3 t3 => (k.of e) .none s3 O2 ad2 H3 ((t1.trans t2).trans t3) (p1.trans p2) rfl)) (starEach_cons hs _ _)))))
include IHE in
theorem n_popl {o eo apos pos} (h1 : K o eo = true) (hb : notBare eo = true) (hl : (apos.endLine == pos.line) = true) :
    OkE c A sc X F env (.Call (.Attribute eo "pop" apos) [] [] pos) (fun l h => stepE P C r l h (.popl o)) := fun O ad loc hp s rv hp' Q S e k =>
  have hss : ∀ e ∈ ([] : List Expr), notStar e = true := fun e m => nM m
  obn_e e fun x hp1 q1 e => call_attr hb hl hss (by simp) (IHE o eo h1 _ _ _ _ _ _ _ _ S q1 fun v1 s1 O1 ad1 H1 t1 p1 r1 pl => rRef_e e r1 fun i a w ea e => hML_e e fun xs q3 e => vS_e e fun v q4 e =>
    list_meth H1 ea q3 PySem.F.slot_list_pop PySem.F.type_list_pop (Calls.callWith_builtin rfl (evalArgs_sp hss (args_nil (m_pop H1 ea q3 q4 fun v s3 H3 t3 r3 => (k.of e) v s3 O1 ad1 H3 (t1.trans t3) p1 r3)))))
theorem oNo_e {α : Type} {γ : Type} {M : Prop} {o : Option α} {b : Option γ} {z : γ} (h : vS b o (fun _ => none) = some z) (k : o = none → b = some z → M) : M := match o, h with
  | none, h => k rfl h
  | some _, h => nS h
include IHE in
theorem n_meth {o m ces eo es apos pos} (cls : c.Cl flds) (ok : c.OK) (hP : P = c.P) (okC : OkC c cl C) (rm : Room A cl) (h1 : K o eo = true) (h : chkL K ces es = true) (hb : notBare eo = true) (hl : (apos.endLine == pos.line) = true) (hn : es.length < 30) :
    OkE c A sc X F env (.Call (.Attribute eo (c.nm m) apos) es [] pos) (fun l h => stepE P C r l h (.meth o m ces)) := fun O ad loc hp s rv hp' Q S e k => by
  subst hP
  refine obn_e e fun x hp1 q1 e => call_attr hb hl (chkL_star h) hn (IHE o eo h1 _ _ _ _ _ _ _ _ S q1 fun v1 s1 O1 ad1 H1 t1 p1 r1 pl => rRef_e e r1 fun i a w ea e => hIn_e e fun kk fs q2 e => oNo_e e fun q3 e => vS_e e fun f q4 e => obn_e e fun vs hp2 q5 e => vS_e e fun q q6 e => ?_)
  refine m_meth cls ok H1 ea q2 q4 q3 ?_
  obtain ⟨_, _, _, _, hkp⟩ := cls.meth kk m f q4
  refine callWith_of (P := c.K.In) (by rw [noneStar env pos h]; rfl) (keeps_K hkp) (evalArgs_sp (chkL_star h) (n_args pos IHE h (S.step H1 t1 p1) q5 fun vs2 s2 O2 ad2 H2 t2 p2 r2 => ⟨ok.kin.keeps H2.keep, ?_⟩))
  show wpAny _ A (call (.ref (c.fA f)) (.ref a :: vs2) []) Q NoE s2
  exact callImp okC rm (args := .ref i :: vs) H2 ⟨_, _, rfl, ⟨a, w, p2 _ _ ea, rfl⟩, r2⟩ q6 (Option.some.inj e) (k.trans (t1.trans t2) (p1.trans p2))
include IHE in
theorem n_new {q ces es p pos} (cls : c.Cl flds) (gl : c.Gl) (ok : c.OK) (hP : P = c.P) (okC : OkC c cl C) (rm : ∀ rest, Room (A.under (.builtin "type.__call__" ⟨.ref (c.cA q) :: rest, []⟩)) cl) (h : chkL K ces es = true) (hq : c.cN q ≠ "") (hn : sc.lookup (c.cN q) = some .globalImplicit) :
    OkE c A sc X F env (.Call (.Name (c.cN q) p) es [] pos) (fun l h => stepE P C r l h (.new q ces)) := fun O ad loc hp s rv hp' Q S e k => by
  subst hP
  refine obn_e e fun vs hp1 q1 e => vS_e e fun f q2 e => obn_e e fun v hp2 q3 e => ?_
  obtain ⟨hm, hd⟩ := gl.cls q hq
  obtain ⟨hk3, hi, hf⟩ := cls.init q f q2
  obtain ⟨g1, g2, g3, g4, g5, g6⟩ := cls.get q hk3
  refine Call_Name rfl (load_glob ok S.sr S.en hn hm hd ?_)
  refine callWith_of (P := c.K.In) (by rw [noneStar env pos h]; rfl) (keeps_K g6) (evalArgs_sp (chkL_star h) (n_args pos IHE h S q1 fun vs1 s1 O1 ad1 H1 t1 p1 r1 => ⟨ok.kin.keeps H1.keep, ?_⟩))
  show wpAny _ A (call (.ref (c.cA q)) ([] ++ vs1) []) Q NoE s1
  rw [List.nil_append]
  have X₀ := ok.kin.keeps H1.keep
  have hz : (s1.heap.push emptyDict).objs.size = s1.heap.objs.size + 1 := Heap.size_push ..
  have kp : Kp s1.heap ((s1.heap.push emptyDict).push (instObj (c.cA q) s1.heap.objs.size)) := (Kp.push _ _).trans (Kp.push _ _)
  have hw := size_none s1.heap
  have gd : ((s1.heap.push emptyDict).push (instObj (c.cA q) s1.heap.objs.size)).get? s1.heap.objs.size = some (dictOf [] 0) := Heap.get?_push_of_some _ (Heap.get?_push_size _ rfl)
  have gx : ((s1.heap.push emptyDict).push (instObj (c.cA q) s1.heap.objs.size)).get? (s1.heap.objs.size + 1) = some (instObj (c.cA q) s1.heap.objs.size) := hz ▸ Heap.get?_push_size _ rfl
  have nx : s1.heap.get? (s1.heap.objs.size + 1) = none := Heap.get?_none_of_le (Nat.le_succ _)
  have H2 := H1.push (tk := s1.toks) (a := s1.heap.objs.size + 1) (w := s1.heap.objs.size) (o := .inst q []) kp hw ⟨_, gd⟩
    ⟨hk3, .inr rfl, fun z => z.elim (fun z => by obtain ⟨o, e⟩ := H1.oin _ z; rw [nx] at e; exact nS e) (Nat.succ_ne_self _), gx, [], 0, gd, Nat.le_refl _, (fun f rv e => nS e), fun x _ => rfl⟩
  have t2 : Step s1.heap O1 ((s1.heap.push emptyDict).push (instObj (c.cA q) s1.heap.objs.size)) (fun b => O1 b ∨ b = s1.heap.objs.size) := Step.push kp hw
  have ix : (ad1 ++ [(s1.heap.objs.size + 1, s1.heap.objs.size)])[hp1.length]? = some (s1.heap.objs.size + 1, s1.heap.objs.size) := by
    rw [← H1.hr.len, List.getElem?_append_right (Nat.le_refl _)]; simp
  refine wpAny_call ?_
  obtain ⟨hh, g, d, t, os⟩ := s1
  refine make_core (makes_of X₀ g5) (looks_findIn X₀ hi) (fun self => bind_fn X₀ self hf) (.inl rfl) ?_
  refine okC _ (rm vs1) X _ _ f (.ref hp1.length :: vs) _ _ (.ref (hh.objs.size + 1) :: vs1) v _ _ H2 ⟨_, _, rfl, ⟨_, _, ix, rfl⟩, r1.step (t2.av X) (.snoc _ _)⟩ q3 fun v s3 O3 ad3 H3 t3 p3 r3 => rNone_e e r3 fun e => ?_
  exact ⟨rfl, (k.of e) _ s3 O3 ad3 H3 ((t1.trans t2).trans t3) ((p1.trans (.snoc _ _)).trans p3) ⟨_, _, p3 _ _ ix, rfl⟩⟩
end
end Mine.Internal
namespace Mine.Internal
open PySem PySem.W PyProof.Rows
variable {c : Cx} {A : Around} {sc : Sc} {O O1 X X' F : Addr → Prop} {env : Env} {ad ad1 : AdT} {hp hp1 hp' : Hp} {loc : Loc} {s s1 : Shared} {cl : Nat} {flds : List Nat}
theorem ObjRel.reX {h h' : Heap} (k : Kp h h') (hX : ∀ b, X' b → X b ∨ h.get? b = none) {o : HObj} {a w : Addr} (r : ObjRel c h O X ad o a w) : ObjRel c h' O X' ad o a w :=
  r.turn (fun b x n e _ => ⟨k b x e, fun z => z.elim (fun z => n (.inl z)) fun z => (hX b z).elim (fun z => n (.inr z)) fun z => nS (z.symm.trans e)⟩) (fun _ x e => k _ x e) id (fun _ ha hg => ⟨k _ _ hg, ha⟩) (.refl _)
theorem Rep.reX {h h' : Heap} (k : Kp h h') (hX : ∀ b, X' b → X b ∨ h.get? b = none) {x : V} {v : Value} (r : Rep h (U O X) x v) : Rep h' (U O X') x v :=
  r.mono fun b x n e _ => ⟨k b x e, fun z => z.elim (fun z => n (.inl z)) fun z => (hX b z).elim (fun z => n (.inr z)) fun z => by rw [e] at z; injection z⟩
theorem RepRV.reX {h h' : Heap} (k : Kp h h') (hX : ∀ b, X' b → X b ∨ h.get? b = none) {x : RV} {v : Value} (r : RepRV h (U O X) ad x v) : RepRV h' (U O X') ad x v :=
  r.mono (fun b x n e _ => ⟨k b x e, fun z => z.elim (fun z => n (.inl z)) fun z => (hX b z).elim (fun z => n (.inr z)) fun z => by rw [e] at z; injection z⟩) (.refl _)
theorem SR.reX (H : SR c s O X ad hp) {h' : Heap} {tk : Nat} (k : Kp s.heap h') (hX : ∀ b, X' b → X b ∨ s.heap.get? b = none) (hin : ∀ b, X' b → ∃ o, h'.get? b = some o) : SR c { s with heap := h', toks := tk } O X' ad hp := by
  obtain ⟨⟨h, t, rfl⟩, hk, ho, hi, hx, hr⟩ := H
  refine ⟨⟨h', tk, rfl⟩, fun b o q => k b o (hk b o q), ho, fun b q => by obtain ⟨o, e⟩ := hi b q; exact ⟨o, k _ _ e⟩, fun b q => ⟨fun z => ?_, hin b q⟩, ⟨hr.len, hr.nodup, fun i o a w ei ea => (hr.obj i o a w ei ea).reX k hX⟩⟩
  rcases hX b q with y | y
  · exact (hx b y).1 z
  · obtain ⟨o, e⟩ := hi b z; rw [show h.get? b = none from y] at e; injection e
theorem EnvOK.kp (e : EnvOK c s.heap O F sc env) {h' : Heap} (k : Kp s.heap h') : EnvOK c h' O F sc env := e.step (Step.stay k)
theorem LocRel.reX (e : EnvOK c s.heap O F sc env) {h' : Heap} (k : Kp s.heap h') (hX : ∀ b, X' b → X b ∨ s.heap.get? b = none) (l : LocRel c s.heap O X ad env loc) : LocRel c h' O X' ad env loc := l.turn (fun r => r.reX k hX) fun r => r.step e (Step.stay k)
theorem St.reX (S : St c O X F ad hp loc sc env s) {h' : Heap} {tk : Nat} (k : Kp s.heap h') (hX : ∀ b, X' b → X b ∨ s.heap.get? b = none) (hin : ∀ b, X' b → ∃ o, h'.get? b = some o) : St c O X' F ad hp loc sc env { s with heap := h', toks := tk } :=
  ⟨S.sr.reX k hX hin, S.en.kp k, LocRel.reX S.en k hX S.lo⟩
structure XTurn (c : Cx) (X X2 : Addr → Prop) (h h' : Heap) (T : Addr → Prop) : Prop where
  sub : ∀ b, T b → X b
  le : ∀ b, X2 b → X b
  k : ∀ b x, ¬ T b → h.get? b = some x → h'.get? b = some x
  there : ∀ b, T b → X2 b → ∃ o, h'.get? b = some o
  dk : ∀ b, T b → ∃ o, h.get? b = some o ∧ ((∃ its n, o.data = .seq its n) ∨ ∃ vs, o.data = .fields vs)
  new : ∀ b, T b → c.s₀.heap.get? b = none
theorem XTurn.rep {T X2 : Addr → Prop} {h h' : Heap} (t : XTurn c X X2 h h' T) : ∀ b x, ¬ U O X b → h.get? b = some x → (∃ its n, x.data = .seq its n) ∨ (∃ vs, x.data = .fields vs) → h'.get? b = some x ∧ ¬ U O X2 b :=
  fun b x n e _ => ⟨t.k b x (fun z => n (.inr (t.sub b z))) e, fun z => z.elim (fun z => n (.inl z)) fun z => n (.inr (t.le b z))⟩
theorem SR.turnX (H : SR c s O X ad hp) {h' : Heap} {tk : Nat} {T X2 : Addr → Prop} (t : XTurn c X X2 s.heap h' T) : SR c { s with heap := h', toks := tk } O X2 ad hp := by
  obtain ⟨⟨h, tk0, rfl⟩, hk, ho, hi, hx, hr⟩ := H
  have nO : ∀ {b}, O b → ¬ T b := fun q z => (hx _ (t.sub _ z)).1 q
  refine ⟨⟨h', tk, rfl⟩, fun b o q => t.k b o (fun z => by rw [t.new b z] at q; injection q) (hk b o q), ho, fun b q => by obtain ⟨o, e⟩ := hi b q; exact ⟨o, t.k b o (nO q) e⟩, fun b q => ⟨(hx b (t.le b q)).1, ?_⟩, ⟨hr.len, hr.nodup, fun i o a w ei ea => ?_⟩⟩
  · by_cases z : T b
    · exact t.there b z q
    · obtain ⟨_, o, e⟩ := hx b (t.le b q); exact ⟨o, t.k b o z e⟩
  refine (hr.obj i o a w ei ea).turn t.rep (fun hw x e => t.k _ x (nO hw) e) id (fun q ha hg => ⟨t.k _ _ (fun z => ?_) hg, ha⟩) (.refl _)
  obtain ⟨o, e, d⟩ := t.dk a z
  rw [show h.get? a = _ from hg] at e; obtain rfl := Option.some.inj e
  rcases d with ⟨_, _, d⟩ | ⟨_, d⟩ <;> injection d
theorem St.turnX (S : St c O X F ad hp loc sc env s) {h' : Heap} {tk : Nat} {T X2 : Addr → Prop} (t : XTurn c X X2 s.heap h' T) : St c O X2 F ad hp loc sc env { s with heap := h', toks := tk } := by
  have nd : ∀ {b} o, (∃ es n, o.data = .dict es n) ∨ (∃ v, o.data = .cell v) → s.heap.get? b = some o → h'.get? b = some o := fun {b} o d e => t.k b o (fun z => (t.dk b z).elim fun o' q => kind_ne d (Option.some.inj (q.1.symm.trans e) ▸ q.2)) e
  exact ⟨S.sr.turnX t, S.en.turn (S.en.ns.imp fun m => ns_k nd) (fun a v q n => ⟨v, cell_k nd q, n⟩) S.en.fO (fun b f => (S.en.fdata b f).imp fun o q => ⟨nd o q.2 q.1, q.2⟩), S.lo.turn (fun r => r.mono t.rep (.refl _)) fun r => r.turn (fun m => ns_k nd) fun a _ _ => cell_k nd⟩
theorem Step.turnNew {h₀ h h' : Heap} {O O' T : Addr → Prop} (t : Step h₀ O h O') (k : ∀ b x, ¬ T b → h.get? b = some x → h'.get? b = some x) (n : ∀ b, T b → h₀.get? b = none) : Step h₀ O h' O' :=
  ⟨fun b o nb e => k b o (fun z => by rw [n b z] at e; injection e) (t.keep b o nb e), t.grow⟩
noncomputable def notOwner (n : String) : Bool := !["enumerate", "zip", "dict_itemiterator", "dict_reverseitemiterator", "odict_iterator", "itertools.zip_longest", "itertools.pairwise"].contains n
structure Iter (c : Cx) (A : Around) (Y : Addr → Prop) (items : List V) (I : Addr) (h₀ : Heap) (fp : List Addr) (P : Nat → Value → Prop) (Sx : Nat → Heap → Prop) : Prop where
  W : Walks c.prog c.w A I fp [I] items.length P Sx
  new : h₀.get? I = none
  own : ∀ b ∈ fp, b = I ∨ (¬ Y b ∧ ∃ o, h₀.get? b = some o ∧ ∃ its n, o.data = .seq its n)
  data : ∀ i h, Sx i h → ∃ o n vs, h.get? I = some o ∧ o.cls = .type n ∧ notOwner n = true ∧ o.data = .fields vs
  rep : ∀ i v, P i v → i < items.length → ∃ x, items[i]? = some x ∧ Rep h₀ Y x v
theorem own_no {target : Expr} {i v : Value} (h : (target.ctorIdx == 25 || target.ctorIdx == 24) = false) : letOwnedTupleGo target i v = pure () :=
  cf (y := letOwnedTupleGo target i v) (by clear h; rcases target with _ | _ <;> first | exact @rfl (Sem Unit) (pure ()) | rfl) h
theorem own_val {es k p} {I : Addr} {v : Value} (h : (v.ctorIdx == 10) = false) : letOwnedTupleGo (.Tuple es k p) (.ref I) v = pure () :=
  cf (y := letOwnedTupleGo (.Tuple es k p) (.ref I) v) (by clear h; rcases v with _ | _ <;> first | exact @rfl (Sem Unit) (pure ()) | rfl) h
theorem own_tup {es k p} {I : Addr} {v : Value} {o : Obj} {n : String} {vs : Array Value} {Q : Unit → Shared → Prop} {E : Value → Shared → Prop} (ho : s.heap.get? I = some o) (hc : o.cls = .type n) (hn : notOwner n = true) (hd : o.data = .fields vs) (q : Q () s) :
    wpAny (model c.prog c.w) A (letOwnedTupleGo (.Tuple es k p) (.ref I) v) Q E s := by
  induction z : (v.ctorIdx == 10) with
  | false => rw [own_val z]; exact wpAny_pure q
  | true =>
    refine Value.ref.elim (motive := fun v => wpAny (model c.prog c.w) A (letOwnedTupleGo (.Tuple es k p) (.ref I) v) Q E s) v (beq_iff_eq.mp z) fun a => ?_
    refine wpAny_bind (wpAny_load ho ?_)
    rw [hc, hd]
    unfold notOwner at hn
    rw [Bool.not_eq_true'] at hn
    simp only [hn, Bool.false_and, Bool.false_eq_true, if_false]
    exact wpAny_pure q
theorem own_go {target : Expr} {I : Addr} {v : Value} {o : Obj} {n : String} {vs : Array Value} {Q : Unit → Shared → Prop} {E : Value → Shared → Prop} (ho : s.heap.get? I = some o) (hc : o.cls = .type n) (hn : notOwner n = true) (hd : o.data = .fields vs) (q : Q () s) :
    wpAny (model c.prog c.w) A (letOwnedTupleGo target (.ref I) v) Q E s := by
  cases z : (target.ctorIdx == 25 || target.ctorIdx == 24) with
  | false => rw [own_no z]; exact wpAny_pure q
  | true =>
    rcases (Bool.or_eq_true _ _).mp z with z | z
    · exact Expr.Tuple.elim (motive_1 := fun t => wpAny (model c.prog c.w) A (letOwnedTupleGo t (.ref I) v) Q E s) target (beq_iff_eq.mp z) fun es k p => own_tup ho hc hn hd q
    · exact Expr.List.elim (motive_1 := fun t => wpAny (model c.prog c.w) A (letOwnedTupleGo t (.ref I) v) Q E s) target (beq_iff_eq.mp z) fun es p => own_tup (es := es) (k := 0) (p := p) ho hc hn hd q
theorem p_iter {Y : Addr → Prop} {x : V} {v : Value} {items : List V} {Q : Value → Shared → Prop} {E : Value → Shared → Prop} (hh : A.handled = none) (ra : Rep s.heap Y x v) (e : itemsOf x = some items)
    (k : ∀ o fp P Sx, Iter c A Y items s.heap.objs.size s.heap fp P Sx → Sx 0 (s.heap.push o) → Q (.ref s.heap.objs.size) { s with heap := s.heap.push o }) : wpAny (model c.prog c.w) A (pyIter v) Q E s := by
  revert ra
  refine itemsOf_e e (fun ra => ?_) (fun ra => ?_) fun p q st ei ra => ?_
  · obtain ⟨a, its, n, rfl, na, g, hl, r⟩ := ra
    have hne : a ≠ s.heap.objs.size := Nat.ne_of_lt (Heap.lt_size g)
    have ht : s.heap.IsTuple a its.toArray := isTup_of g
    refine wpAny_pyIter_tuple ht (k _ [s.heap.objs.size, a] (fun i v => its.toArray[i]? = some v) (fun i h => h.IsTupleIter s.heap.objs.size a i ∧ h.IsTuple a its.toArray) ⟨?_, size_none _, fun b hb => ?_, fun i h st => ?_, fun i v hv hi => ?_⟩ ⟨⟨_, Heap.get?_push_size _ rfl, rfl, rfl⟩, ht.push _⟩)
    · have hs : its.toArray.size = items.length := (List.size_toArray ..).trans r.length
      rw [← hs]
      exact Walks.tuple (prog := c.prog) (w := c.w) (A := A) hh s.heap.objs.size a hne its.toArray
    · rcases List.mem_cons.mp hb with rfl | hb
      · exact .inl rfl
      · rw [List.mem_singleton.mp hb]; exact .inr ⟨na, _, g, _, _, rfl⟩
    · obtain ⟨⟨o, ho, hc, hd⟩, _⟩ := st; exact ⟨o, _, _, ho, hc, by decide, hd⟩
    · exact r.get (by simpa using hv)
  · obtain ⟨a, its, n, rfl, na, g, hl, r⟩ := ra
    have hne : a ≠ s.heap.objs.size := Nat.ne_of_lt (Heap.lt_size g)
    have ht : s.heap.IsList a its.toArray := isList_of g
    refine wpAny_pyIter_list ht (k _ [s.heap.objs.size, a] (fun i v => its.toArray[i]? = some v) (fun i h => h.IsListIter s.heap.objs.size a i ∧ h.IsList a its.toArray) ⟨?_, size_none _, fun b hb => ?_, fun i h st => ?_, fun i v hv hi => ?_⟩ ⟨⟨_, Heap.get?_push_size _ rfl, rfl, rfl⟩, ht.push _⟩)
    · have hs : its.toArray.size = items.length := (List.size_toArray ..).trans r.length
      rw [← hs]
      exact Walks.list (prog := c.prog) (w := c.w) (A := A) hh s.heap.objs.size a hne its.toArray
    · rcases List.mem_cons.mp hb with rfl | hb
      · exact .inl rfl
      · rw [List.mem_singleton.mp hb]; exact .inr ⟨na, _, g, _, _, rfl⟩
    · obtain ⟨⟨o, ho, hc, hd⟩, _⟩ := st; exact ⟨o, _, _, ho, hc, by decide, hd⟩
    · exact r.get (by simpa using hv)
  · subst ei
    obtain ⟨a, t, u, z, rfl, na, ir, hb⟩ := ra
    have hn := rangeSize_rngN (a := p) (b := q) hb.2.2.2.2
    have hlen : (rngItems p q st).length = rngN p q st := by simp [rngItems]
    refine wpAny_pyIter_range ir (small_rng hb) (k _ [s.heap.objs.size] (fun i v => ∃ t, v = .int (p + i * st) t) (fun i h => IsRangeIter h s.heap.objs.size (p + (i : Nat) * st) ((rngN p q st : Int) - (i : Nat)) st) ⟨?_, size_none _, fun b hb => .inl (List.mem_singleton.mp hb), fun i h st => ⟨_, "range_iterator", _, st, rfl, by decide, rfl⟩, fun i v hv hi => ?_⟩ ?_)
    · rw [hlen]
      exact Walks.range (prog := c.prog) (w := c.w) (A := A) hh s.heap.objs.size p st (rngN p q st)
    · obtain ⟨t, rfl⟩ := hv
      rw [hlen] at hi
      refine ⟨.int (p + st * i), ?_, t, by rw [Int.mul_comm]⟩
      unfold rngItems
      rw [List.getElem?_map, List.getElem?_range hi]; rfl
    · show IsRangeIter _ _ _ _ _
      rw [hn]
      have q : (s.heap.push { cls := .type "range_iterator", data := .fields #[rawInt p, rawInt (rngN p q st : Int), rawInt st] }).get? s.heap.objs.size = some { cls := .type "range_iterator", data := .fields #[rawInt p, rawInt (rngN p q st : Int), rawInt st] } := Heap.get?_push_size _ rfl
      show _ = _
      simpa using q
end Mine.Internal
namespace Mine.Internal
open PySem PySem.W PyProof.Rows
variable {c : Cx} {A : Around} {sc : Sc} {O O1 X X' F : Addr → Prop} {env : Env} {ad ad1 : AdT} {hp hp1 hp' : Hp} {loc loc' : Loc} {s s1 : Shared} {cl : Nat} {flds : List Nat}
theorem EnvOK.notF (e : EnvOK c s.heap O F sc env) {b : Addr} {o : Obj} (g : s.heap.get? b = some o) (d : (∃ its n, o.data = .seq its n) ∨ ∃ vs, o.data = .fields vs) : ¬ F b := fun f => by
  obtain ⟨o', g', d'⟩ := e.fdata b f
  rw [g] at g'; cases g'
  rcases d with ⟨_, _, d⟩ | ⟨_, d⟩ <;> rcases d' with ⟨_, _, d'⟩ | ⟨_, d'⟩ <;> rw [d] at d' <;> cases d'
theorem Rep.stepF (e : EnvOK c s.heap O F sc env) {h' : Heap} {O' : Addr → Prop} (t : Step s.heap (U O F) h' (U O' F)) {x : V} {v : Value} (r : Rep s.heap (U O X) x v) : Rep h' (U O' X) x v :=
  r.mono fun b o n g d => by
    have nf := e.notF g d
    have nu : ¬ U O F b := fun z => z.elim (fun z => n (.inl z)) nf
    exact ⟨t.keep b o nu g, fun z => z.elim (fun z => t.not g nu (.inl z)) fun z => n (.inr z)⟩
theorem RepL.stepF (e : EnvOK c s.heap O F sc env) {h' : Heap} {O' : Addr → Prop} (t : Step s.heap (U O F) h' (U O' F)) {x : List V} {v : List Value} (r : RepL s.heap (U O X) x v) : RepL h' (U O' X) x v :=
  r.mono fun b o n g d => by
    have nf := e.notF g d
    have nu : ¬ U O F b := fun z => z.elim (fun z => n (.inl z)) nf
    exact ⟨t.keep b o nu g, fun z => z.elim (fun z => t.not g nu (.inl z)) fun z => n (.inr z)⟩
theorem RepRV.stepF (e : EnvOK c s.heap O F sc env) {h' : Heap} {O' : Addr → Prop} (t : Step s.heap (U O F) h' (U O' F)) (p : Prefix ad ad1) {x : RV} {v : Value} (r : RepRV s.heap (U O X) ad x v) : RepRV h' (U O' X) ad1 x v :=
  r.mono (fun b o n g d => by
    have nf := e.notF g d
    have nu : ¬ U O F b := fun z => z.elim (fun z => n (.inl z)) nf
    exact ⟨t.keep b o nu g, fun z => z.elim (fun z => t.not g nu (.inl z)) fun z => n (.inr z)⟩) p
theorem okVar_of {x : Nat} {y : Str} (h : okVar c.toNm sc x y = true) : x < c.N ∧ c.nm x = y ∧ (sc.lookup (c.nm x) = some .local ∨ sc.lookup (c.nm x) = some .cell) := by
  simp only [okVar, Bool.and_eq_true, decide_eq_true_eq, beq_iff_eq, Bool.or_eq_true] at h
  obtain ⟨⟨h1, h2⟩, h3⟩ := h
  exact ⟨h1, h2, by rw [h2]; exact h3⟩
theorem chkTs_c {f : Nat → Str → Bool} {t : CT} {ts : List CT} {e : Expr} {es : List Expr} : chkTs f (t :: ts) (e :: es) = (chkT f t e && chkTs f ts es) := rfl
theorem bindTs_e {t : CT} {ts : List CT} {x : V} {xs : List V} {l : Loc} : bindTs (t :: ts) (x :: xs) l = vS none (bindT t x l) (bindTs ts xs) := by kernel_rfl
@[elab_as_elim] theorem bindT_tup {ts : List CT} {x : V} {l : Loc} {z : Loc} {M : V → Prop} (h : bindT (.tup ts) x l = some z) (k : ∀ xs, bindTs ts xs l = some z → M (.tup xs)) : M x :=
  @V.casesOn (fun x => bindT (.tup ts) x l = some z → M x) x nS (fun _ => nS) (fun _ => nS) (fun _ => nS) (fun xs h => k xs h) (fun _ => nS) (fun _ _ _ => nS) h
theorem bindTs_c {t : CT} {ts : List CT} {x : V} {xs : List V} {l l' : Loc} (h : bindTs (t :: ts) (x :: xs) l = some l') : ∃ l1, bindT t x l = some l1 ∧ bindTs ts xs l1 = some l' := vS_e (bindTs_e.symm.trans h) fun l1 q r => ⟨l1, q, r⟩
theorem chkT_star {f : Nat → Str → Bool} {t : CT} {e : Expr} (h : chkT f t e = true) : notStar e = true := by
  cases t with
  | name x => exact onName_e (show onName e (f x) = true from h) fun _ _ _ => rfl
  | tup ts => exact onTup_e (show onTup e (chkTs f ts) = true from h) fun _ _ _ _ => rfl
theorem assignEach_cons {e : Expr} (h : notStar e = true) (rest : List Expr) (env : Env) : assignEach (e :: rest) env = (false, assign e env) :: assignEach rest env := by
  rcases e with _ | _ <;> first | rfl | exact nB h
theorem assignEach_len {es : List Expr} (h : ∀ e ∈ es, notStar e = true) : (assignEach es env).length = es.length ∧ (assignEach es env).findIdx? (·.1) = none := by
  induction es with
  | nil => exact ⟨rfl, rfl⟩
  | cons e es ih =>
    rw [assignEach_cons (h e (.head _))]
    obtain ⟨i1, i2⟩ := ih fun x m => h x (.tail _ m)
    refine ⟨by simp [i1], ?_⟩
    simp [List.findIdx?_cons, i2]
@[elab_as_elim] theorem chkTs_e {f : Nat → Str → Bool} {M : List CT → List Expr → Prop} {ts : List CT} {es : List Expr} (h : chkTs f ts es = true) (n : M [] []) (k : ∀ t ts e es, chkT f t e = true → chkTs f ts es = true → M ts es → M (t :: ts) (e :: es)) : M ts es := by
  induction ts generalizing es with
  | nil =>
    rcases es with _ | _
    · exact n
    · exact nB h
  | cons t ts ih =>
    rcases es with _ | ⟨e, es⟩
    · exact nB h
    · have q := (Bool.and_eq_true _ _).mp (show (chkT f t e && chkTs f ts es) = true from h)
      exact k t ts e es q.1 q.2 (ih q.2)
theorem chkTs_star {f : Nat → Str → Bool} {ts es} (h : chkTs f ts es = true) : ∀ e ∈ es, notStar e = true :=
  chkTs_e (M := fun _ es => ∀ e ∈ es, notStar e = true) h (fun _ m => nM m) fun _ _ _ _ h1 _ ih x m => (List.mem_cons.mp m).elim (fun q => q ▸ chkT_star h1) (ih x)
theorem bindTs_len {f : Nat → Str → Bool} {ts es} (h : chkTs f ts es = true) : ∀ {xs : List V} {l l' : Loc}, bindTs ts xs l = some l' → es.length = xs.length :=
  @chkTs_e f (fun ts es => ∀ {xs : List V} {l l' : Loc}, bindTs ts xs l = some l' → es.length = xs.length) _ _ h
    (fun {xs} => List.casesOn xs (fun _ => rfl) fun _ _ h => nS h) fun t ts e es _ _ ih {xs} => List.casesOn xs (fun h => nS h) fun x xs h => (bindTs_c h).elim fun l1 q => congrArg (· + 1) (ih q.2)
theorem St.storeVar (ok : c.OK) {x : Nat} {rv : RV} {v : Value} {Q : Unit → Shared → Prop} (S : St c O X F ad hp loc sc env s) (hx : x < c.N) (hk : sc.lookup (c.nm x) = some .local ∨ sc.lookup (c.nm x) = some .cell) (r : RepRV s.heap (U O X) ad rv v)
    (k : ∀ s', St c O X F ad hp (setL x rv loc) sc env s' → Step s.heap (U O F) s'.heap (U O F) → Q () s') : wpAny (model c.prog c.w) A (storeName env (c.nm x) v) Q NoE s :=
  store_var ok S.sr S.en S.lo hx hk r fun s' a b d e => k s' ⟨a, b, d⟩ e
theorem St.kp (S : St c O X F ad hp loc sc env s) {h' : Heap} {tk : Nat} (k : Kp s.heap h') : St c O X F ad hp loc sc env { s with heap := h', toks := tk } :=
  ⟨S.sr.stay k, S.en.kp k, S.lo.step S.en (Step.stay k) (.refl _)⟩
mutual
theorem t_bind (ok : c.OK) (hh : A.handled = none) : ∀ (ct : CT) {e : Expr} {x : V} {v : Value} {loc loc' : Loc} {s : Shared} {Q : Unit → Shared → Prop}, chkT (okVar c.toNm sc) ct e = true → bindT ct x loc = some loc' →
    St c O X F ad hp loc sc env s → Rep s.heap (U O X) x v → (∀ s', St c O X F ad hp loc' sc env s' → Step s.heap (U O F) s'.heap (U O F) → Q () s') → wpAny (model c.prog c.w) A (assign e env v) Q NoE s
  | .name x, e, xv, v, loc, loc', s, Q => @fun h b S r k => by
    refine onName_e (show onName e (okVar c.toNm sc x) = true from h) fun y pos h => ?_
    obtain ⟨hx, rfl, hk⟩ := okVar_of h
    obtain rfl := Option.some.inj b
    exact PyProof.Rows.assign_Name (S.storeVar (rv := .val xv) ok hx hk r k)
  | .tup ts, e, xv, v, loc, loc', s, Q => @fun h b S r k => by
    refine onTup_e (show onTup e (chkTs (okVar c.toNm sc) ts) = true from h) fun es m pos h => ?_
    revert r
    refine bindT_tup b fun xs b r => ?_
    obtain ⟨a, its, n, rfl, na, g, hl, rl⟩ := r
    have hz := assignEach_len (env := env) (chkTs_star h)
    refine wpAny_assign_Tuple hh (isTup_of g) (by rw [hz.1, List.size_toArray, rl.length, bindTs_len h b]) hz.2 fun h' hs => ?_
    have kp : Kp s.heap h' := fun b o e => hs b o (Nat.ne_of_lt (Heap.lt_size e)) e
    rw [List.toList_toArray]
    exact t_binds ok hh ts h b (S.kp (tk := s.toks) kp) (rl.kp kp) fun s' S' t => k s' S' ((Step.stay kp).trans t)
termination_by structural ct => ct
theorem t_binds (ok : c.OK) (hh : A.handled = none) : ∀ (cts : List CT) {es : List Expr} {xs : List V} {vs : List Value} {loc loc' : Loc} {s : Shared} {Q : Unit → Shared → Prop}, chkTs (okVar c.toNm sc) cts es = true → bindTs cts xs loc = some loc' →
    St c O X F ad hp loc sc env s → RepL s.heap (U O X) xs vs → (∀ s', St c O X F ad hp loc' sc env s' → Step s.heap (U O F) s'.heap (U O F) → Q () s') → wpAny (model c.prog c.w) A (assignInOrder ((assignEach es env).map (·.2)) vs) Q NoE s
  | [], es, xs, vs, loc, loc', s, Q => @fun h b S r k => by
    rcases es with _ | _
    · rcases xs with _ | _
      · obtain rfl := Option.some.inj b
        exact RepL.out0 r (wpAny_pure (k s S (Step.refl _ _)))
      · exact nS b
    · exact nB h
  | t :: ts, es, xs, vs, loc, loc', s, Q => @fun h b S r k => by
    rcases es with _ | ⟨e, es⟩
    · exact nB h
    rcases xs with _ | ⟨x, xs⟩
    · exact nS b
    have hc := (Bool.and_eq_true _ _).mp (show (chkT (okVar c.toNm sc) t e && chkTs (okVar c.toNm sc) ts es) = true from h)
    obtain ⟨l1, b1, b⟩ := bindTs_c b
    refine RepL.out r fun v rs r1 r2 => ?_
    rw [assignEach_cons (chkT_star hc.1)]
    show wpAny _ A (holding rs (assign e env v) >>= fun _ => assignInOrder ((assignEach es env).map (·.2)) rs) Q NoE s
    exact wpAny_bind (wpAny_holding (t_bind ok hh t hc.1 b1 S r1 fun s1 S1 t1 => t_binds ok hh ts hc.2 b S1 (r2.stepF S.en t1) fun s2 S2 t2 => k s2 S2 (t1.trans t2)))
termination_by structural cts => cts
end
end Mine.Internal
namespace Mine.Internal
open PySem PySem.W PyProof.Rows
variable {c : Cx} {A : Around} {sc : Sc} {O O1 X X' F : Addr → Prop} {env : Env} {ad ad1 : AdT} {hp hp1 hp' : Hp} {loc loc' : Loc} {s s1 : Shared} {cl : Nat} {flds : List Nat}
noncomputable def OutRel (h : Heap) (O X : Addr → Prop) (ad : AdT) : Out → Flow → Prop
  | .next, fl => fl = .next
  | .ret rv, fl => ∃ v, fl = .ret v ∧ RepRV h (U O X) ad rv v
noncomputable def PS (c : Cx) (X F : Addr → Prop) (sc : Sc) (env : Env) (s : Shared) (O : Addr → Prop) (ad : AdT) (out : Out) (loc' : Loc) (hp' : Hp) (Q : Flow → Shared → Prop) : Prop :=
  ∀ s' O' ad' fl, St c O' X F ad' hp' loc' sc env s' → Step s.heap (U O F) s'.heap (U O' F) → Prefix ad ad' → OutRel s'.heap O' X ad' out fl → Q fl s'
noncomputable def OkS (c : Cx) (A : Around) (sc : Sc) (X F : Addr → Prop) (env : Env) (st : Stmt) (ev : Loc → Hp → Option (Out × Loc × Hp)) : Prop :=
  ∀ O ad loc hp s out loc' hp' Q, St c O X F ad hp loc sc env s → ev loc hp = some (out, loc', hp') → PS c X F sc env s O ad out loc' hp' Q → wpAny (model c.prog c.w) A (exec st env) Q NoE s
noncomputable def OkSs (c : Cx) (A : Around) (sc : Sc) (X F : Addr → Prop) (env : Env) (sts : List Stmt) (ev : Loc → Hp → Option (Out × Loc × Hp)) : Prop :=
  ∀ O ad loc hp s out loc' hp' Q, St c O X F ad hp loc sc env s → ev loc hp = some (out, loc', hp') → PS c X F sc env s O ad out loc' hp' Q → wpAny (model c.prog c.w) A (execs sts env) Q NoE s
theorem PS.trans {out : Out} {Q : Flow → Shared → Prop} (k : PS c X F sc env s O ad out loc' hp' Q) (t : Step s.heap (U O F) s1.heap (U O1 F)) (p : Prefix ad ad1) : PS c X F sc env s1 O1 ad1 out loc' hp' Q :=
  fun s' O' ad' fl a b d r => k s' O' ad' fl a (t.trans b) (p.trans d) r
theorem PS.eq {out : Out} {Q : Flow → Shared → Prop} {o1 : Out} {l1 : Loc} {h1 : Hp} (k : PS c X F sc env s O ad out loc' hp' Q) (e : some (o1, l1, h1) = some (out, loc', hp')) : PS c X F sc env s O ad o1 l1 h1 Q := by rcases e with ⟨⟩; exact k
theorem PS.next {Q : Flow → Shared → Prop} (k : PS c X F sc env s O ad .next loc hp Q) (S : St c O X F ad hp loc sc env s) : Q .next s := k s O ad .next S (Step.refl _ _) (.refl _) rfl
theorem cc {α : Type _} {b : Bool} {x : α} : x = cond b x x := by rcases b with _ | _ <;> rfl
theorem swaps_not {e : Expr} {t : Option Expr} {l : Nat} {env : Env} (h : isComp e = false) : swapsWith e t l env = pure false :=
  cf (b := isComp e) (y := swapsWith e t l env) (by clear h; rcases e with _ | _ <;> first | exact @rfl (Sem Bool) (pure false) | rfl) h
noncomputable def notName (e : Expr) : Bool := !(e.ctorIdx == 23)
theorem swaps_other {e t : Expr} {l : Nat} {env : Env} (h : notName t = true) : swapsWith e (some t) l env = pure false :=
  cfn (b := t.ctorIdx == 23) (y := swapsWith e (some t) l env) (by clear h; rcases e with _ | _ <;> first | exact @cc (Sem Bool) _ (pure false) | (rcases t with _ | _ <;> first | exact @rfl (Sem Bool) (pure false) | rfl)) h
theorem swapped_val {elts k tpos e env} (h : notTup e = true) : swappedStores [.Tuple elts k tpos] e env = pure none :=
  cfn (b := e.ctorIdx == 25) (y := swappedStores [.Tuple elts k tpos] e env) (by clear h; rcases e with _ | _ <;> first | exact @rfl (Sem (Option (List (Value → Sem Unit)))) (pure none) | rfl) h
theorem noSetIter {e : Expr} {env : Env} (h : notSet e = true) (x : Value) : foldedSetIterable e env x = pure x :=
  cfn (b := e.ctorIdx == 7) (y := foldedSetIterable e env x) (by clear h; rcases e with _ | _ <;> first | exact @rfl (Sem Value) (pure x) | rfl) h
section
variable {P : Prog} {C : CallT} {r : EV} {K KB : CE → Expr → Bool} {KS : CS → Stmt → Bool}
variable (IHE : ∀ X ce e, K ce e = true → OkE c A sc X F env e (fun l h => r.E l h ce)) (IHB : ∀ X ce e, KB ce e = true → OkB c A sc X F env e (fun l h => r.B l h ce))
  (IHS : ∀ X cs st, KS cs st = true → OkS c A sc X F env st (fun l h => r.S l h cs))
include IHS in
theorem n_block : ∀ {css : List CS} {sts : List Stmt}, chkSL KS css sts = true → ∀ X, OkSs c A sc X F env sts (fun l h => block r.S css l h)
  | [], [] => @fun _ X O ad loc hp s out loc' hp' Q S e k => by
    cases e
    exact wpAny_pure (k.next S)
  | [], _ :: _ => @fun h _ _ _ _ _ _ _ _ _ _ _ _ _ => by exact nB h
  | _ :: _, [] => @fun h _ _ _ _ _ _ _ _ _ _ _ _ _ => by exact nB h
  | cs :: css, st :: sts => @fun h X O ad loc hp s out loc' hp' Q S e k => by
    rw [show chkSL KS (cs :: css) (st :: sts) = (KS cs st && chkSL KS css sts) from rfl, Bool.and_eq_true] at h
    refine wpAny_execs_cons (obs_e e (fun loc1 hp1 e1 e => IHS X cs st h.1 _ _ _ _ _ _ _ _ _ S e1 fun s1 O1 ad1 fl S1 t1 p1 r1 => ?_) fun v hv e => IHS X cs st h.1 _ _ _ _ _ _ _ _ _ S e fun s1 O1 ad1 fl S1 t1 p1 r1 => ?_)
    · subst r1
      exact n_block h.2 X _ _ _ _ _ _ _ _ _ S1 e (k.trans t1 p1)
    · cases (show out = .ret v from hv)
      obtain ⟨v, rfl, rr⟩ := r1
      exact k _ _ _ _ S1 t1 p1 ⟨v, rfl, rr⟩
@[elab_as_elim] theorem rEx_e {h : Heap} {Y : Addr → Prop} {x : RV} {v : Value} {γ : Type} {f : Option γ} {z : γ} {M : Value → Prop} (e : vEx none x f = some z) (r : RepRV h Y ad x v) (k0 : f = some z → M .none) (k1 : ∀ b, f = some z → M (.bool b)) (k2 : ∀ i t, f = some z → M (.int i t)) : M v := match x, e, r with
  | .val .none, e, q => Eq.symm q ▸ k0 e
  | .val (.bool b), e, q => Eq.symm q ▸ k1 b e
  | .val (.int i), e, ⟨t, q⟩ => Eq.symm q ▸ k2 i t e
  | .val (.str _), e, _ => nS e
  | .val (.tup _), e, _ => nS e
  | .val (.lst _), e, _ => nS e
  | .val (.rng _ _ _), e, _ => nS e
  | .ref _, e, _ => nS e
include IHE in
theorem s_ex {ce e pos} (h : K ce e = true) (hc : isComp e = false) : OkS c A sc X F env (.Expr e pos) (fun l h => stepS P C r l h (.ex ce)) := fun O ad loc hp s out loc' hp' Q S ev k =>
  obn_e ev fun v hp1 e1 ev => wpAny_Expr (IHE X ce e h _ _ _ _ _ _ _ _ S e1 fun v1 s1 O1 ad1 H1 t1 p1 r1 =>
    have z := S.step H1 t1 p1
    rEx_e ev r1 (fun ev => (k.eq ev) _ _ _ _ z (t1.av F) p1 rfl) (fun _ ev => (k.eq ev) _ _ _ _ z (t1.av F) p1 rfl) fun _ _ ev => (k.eq ev) _ _ _ _ z (t1.av F) p1 rfl) (by unfold interactive; rw [S.en.kind]; rfl) (swaps_not hc)
include IHE in
theorem s_ret {ce e pos} (h : K ce e = true) : OkS c A sc X F env (.Return (some e) pos) (fun l h => stepS P C r l h (.ret (some ce))) := fun O ad loc hp s out loc' hp' Q S ev k =>
  obn_e ev fun v hp1 e1 ev => wpAny_Return_some (IHE X ce e h _ _ _ _ _ _ _ _ S e1 fun v1 s1 O1 ad1 H1 t1 p1 r1 => (k.eq ev) _ _ _ _ (S.step H1 t1 p1) (t1.av F) p1 ⟨v1, rfl, r1⟩)
theorem s_ret0 {pos} : OkS c A sc X F env (.Return none pos) (fun l h => stepS P C r l h (.ret none)) := fun O ad loc hp s out loc' hp' Q S ev k => by
  rcases ev with ⟨⟩
  exact wpAny_Return_none (k _ _ _ _ S (Step.refl _ _) (.refl _) ⟨.none, rfl, rfl⟩)
include IHE in
theorem s_asg {x ce e y p pos} (ok : c.OK) (h : K ce e = true) (hc : isComp e = false) (hv : okVar c.toNm sc x y = true) : OkS c A sc X F env (.Assign [.Name y p] e pos) (fun l h => stepS P C r l h (.asg (.name x) ce)) := fun O ad loc hp s out loc' hp' Q S ev k => by
  obtain ⟨hx, rfl, hk⟩ := okVar_of hv
  exact obn_e ev fun v hp1 e1 ev => wpAny_Assign_Name (IHE X ce e h _ _ _ _ _ _ _ _ S e1 fun v1 s1 O1 ad1 H1 t1 p1 r1 =>
    (S.step H1 t1 p1).storeVar ok hx hk r1 fun s2 S2 t2 => (k.eq ev) _ _ _ _ S2 ((t1.av F).trans t2) p1 rfl) (swaps_not hc)
include IHE in
theorem s_asgTup {ts ce e es m tp pos} (ok : c.OK) (hh : A.handled = none) (h : K ce e = true) (hc : isComp e = false) (ht : notTup e = true) (hv : chkTs (okVar c.toNm sc) ts es = true) :
    OkS c A sc X F env (.Assign [.Tuple es m tp] e pos) (fun l h => stepS P C r l h (.asg (.tup ts) ce)) := fun O ad loc hp s out loc' hp' Q S ev k =>
  obn_e ev fun v hp1 e1 ev => Assign_Tuple (IHE X ce e h _ _ _ _ _ _ _ _ S e1 fun v1 s1 O1 ad1 H1 t1 p1 r1 => rTup_e ev r1 fun vs r1 ev => vS_e ev fun l1 b ev =>
    t_bind ok hh (.tup ts) (x := .tup vs) hv b (S.step H1 t1 p1) r1 fun s2 S2 t2 => (k.eq ev) _ _ _ _ S2 ((t1.av F).trans t2) p1 rfl) (by unfold swapsWithSole; exact swaps_not hc) (swapped_val ht)
theorem assign_one {t e : Expr} {pos : Pos} {Q : Flow → Shared → Prop} (h1 : notName t = true) (h2 : notTup t = true) (h3 : notStar t = true) (h4 : ∀ a b, t ≠ .List a b)
    (h : wpAny (model c.prog c.w) A (eval e env) (fun v s1 => wpAny (model c.prog c.w) A (assign t env v) (fun _ => Q .next) NoE s1) NoE s) : wpAny (model c.prog c.w) A (exec (.Assign [t] e pos) env) Q NoE s := by
  refine wpAny_Assign_stores (wpAny_mono h (fun v s1 h1 => ?_) fun _ _ x => x) (swaps_other h1) ?_
  · rw [assignEach_cons h3]; exact h1
  · rcases t with _ | _ <;> first | rfl | exact absurd rfl (h4 _ _) | exact nB h2
include IHE in
theorem s_asgAttr {o f ce e eo p pos} (cls : c.Cl flds) (ok : c.OK) (h : K ce e = true) (ho : K o eo = true) (hf : f ∈ flds) : OkS c A sc X F env (.Assign [.Attribute eo (c.nm f) p] e pos) (fun l h => stepS P C r l h (.asg (.attr o f) ce)) := fun O ad loc hp s out loc' hp' Q S ev k => by
  refine obn_e ev fun v hp1 e1 ev => obn_e ev fun x hp2 e2 ev => assign_one rfl rfl rfl (by simp) (IHE X ce e h _ _ _ _ _ _ _ _ S e1 fun v1 s1 O1 ad1 H1 t1 p1 r1 => ?_)
  have S1 := S.step H1 t1 p1
  simp only [arm_assign_Attribute]
  exact wpAny_bind (wpAny_holding (IHE X o eo ho _ _ _ _ _ _ _ _ S1 e2 fun v2 s2 O2 ad2 H2 t2 p2 r2 => rRef_e ev r2 fun i a w ea ev => hIn_e ev fun kk fs e3 ev => oIf_e ev fun hn ev => wpAny_bind (wpAny_standAt (wpAny_bind (wpAny_holding
    (m_setattr cls ok H2 ea e3 hf hn (r1.step (t2.av X) p2) fun s3 H3 t3 => wpAny_release ((k.eq ev) s3 O2 ad2 _ ((S1.step H2 t2 p2).step H3 t3 (.refl _)) (((t1.trans t2).trans t3).av F) (p1.trans p2) rfl)))))))
include IHE in
theorem s_asgIdx {o i ce e eo ei p pos} (h : K ce e = true) (ho : K o eo = true) (hi : K i ei = true) : OkS c A sc X F env (.Assign [.Subscript eo ei p] e pos) (fun l h => stepS P C r l h (.asg (.idx o i) ce)) := fun O ad loc hp s out loc' hp' Q S ev k => by
  refine obn_e ev fun v hp1 e1 ev => assign_one rfl rfl rfl (by simp) (IHE X ce e h _ _ _ _ _ _ _ _ S e1 fun v1 s1 O1 ad1 H1 t1 p1 r1 => rVal_e ev r1 fun wv _ r1 ev => obn_e ev fun x hp2 e2 ev => ?_)
  have S1 := S.step H1 t1 p1
  rw [arm_assign_Subscript]
  refine wpAny_bind (wpAny_holding (IHE X o eo ho _ _ _ _ _ _ _ _ S1 e2 fun v2 s2 O2 ad2 H2 t2 p2 r2 => rRef_e ev r2 fun kk a w ea ev => obn_e ev fun y hp3 e3 ev => ?_))
  have S2 := S1.step H2 t2 p2
  refine wpAny_bind (wpAny_holding (IHE X i ei hi _ _ _ _ _ _ _ _ S2 e3 fun v3 s3 O3 ad3 H3 t3 p3 r3 => rI_e ev r3 fun j tj ev => wpAny_bind (wpAny_standAt (wpAny_bind (wpAny_holding ?_)))))
  have rv : Rep s3.heap (U O3 X) wv v1 := (r1.step (t2.av X)).step (t3.av X)
  have fin : ∀ {h4 : Hp} {s4 : Shared}, some (Out.next, loc, h4) = some (out, loc', hp') → SR c s4 O3 X ad3 h4 → Step s3.heap O3 s4.heap O3 → Q .next s4 := fun ev H4 t4 =>
    (k.eq ev) _ O3 ad3 _ ((S2.step H3 t3 p3).step H4 t4 (.refl _)) ((((t1.trans t2).trans t3).trans t4).av F) ((p1.trans p2).trans p3) rfl
  exact hOb_e ev (fun xs e4 ev => vS_e ev fun q e5 ev => m_setAt H3 (p3 _ _ ea) e4 e5 rv fun s4 H4 t4 => wpAny_release (fin ev H4 t4)) (fun _ _ ev => nS ev) fun n e4 ev => oIf_e ev fun e5 ev => m_dictSet H3 (p3 _ _ ea) e4 e5 fun s4 H4 t4 => wpAny_release (fin ev H4 t4)
include IHB IHS in
theorem s_iff {t a b et ea eb pos} (ht : KB t et = true) (ha : chkSL KS a ea = true) (hb : chkSL KS b eb = true) : OkS c A sc X F env (.If et ea eb pos) (fun l h => stepS P C r l h (.iff t a b)) := fun O ad loc hp s out loc' hp' Q S ev k =>
  obn_e ev fun x hp1 e1 ev => wpAny_If (IHB X t et ht _ _ _ _ _ _ _ _ S e1 fun s1 O1 ad1 H1 t1 p1 => by
    induction x with
    | true => exact n_block IHS ha X _ _ _ _ _ _ _ _ _ (S.step H1 t1 p1) ev (k.trans (t1.av F) p1)
    | false => exact n_block IHS hb X _ _ _ _ _ _ _ _ _ (S.step H1 t1 p1) ev (k.trans (t1.av F) p1))
end
end Mine.Internal
namespace Mine.Internal
open PySem PySem.W PyProof.Rows
variable {c : Cx} {A : Around} {sc : Sc} {O O1 X X' F : Addr → Prop} {env : Env} {ad ad1 : AdT} {hp hp1 hp' : Hp} {loc loc' : Loc} {s s1 : Shared} {cl : Nat} {flds : List Nat}
theorem noE {α : Type} {M : Model} {t : Sem α} {Q : α → Shared → Prop} {E : Value → Shared → Prop} (h : wpAny M A t Q NoE s) : wpAny M A t Q E s := wpAny_mono h (fun _ _ x => x) (fun _ _ f => False.elim f)
theorem Rep.far (e : EnvOK c s.heap O F sc env) {h' : Heap} {O' : Addr → Prop} (t : Step s.heap (U O F) h' (U O' F)) (hX : ∀ b, X' b → X b ∨ s.heap.get? b = none) {x : V} {v : Value} (r : Rep s.heap (U O X) x v) : Rep h' (U O' X') x v :=
  r.mono fun b o n g d => by
    have nf := e.notF g d
    have nu : ¬ U O F b := fun z => z.elim (fun z => n (.inl z)) nf
    exact ⟨t.keep b o nu g, fun z => z.elim (fun z => t.not g nu (.inl z)) fun z => (hX b z).elim (fun z => n (.inr z)) fun z => by rw [g] at z; injection z⟩
theorem XTurn.one {h h' : Heap} {X2 : Addr → Prop} {I : Addr} (hI : X I) (le : ∀ b, X2 b → X b) (k : ∀ b x, b ∉ [I] → h.get? b = some x → h'.get? b = some x) (there : X2 I → ∃ o, h'.get? I = some o)
    (dk : ∃ o, h.get? I = some o ∧ ((∃ its n, o.data = .seq its n) ∨ ∃ vs, o.data = .fields vs)) (new : c.s₀.heap.get? I = none) : XTurn c X X2 h h' (fun b => b = I) :=
  ⟨fun b e => e ▸ hI, le, fun b x n e => k b x (fun z => n (List.mem_singleton.mp z)) e, fun b e z => by subst e; exact there z, fun b e => by subst e; exact dk, fun b e => by subst e; exact new⟩
theorem St.xlive (S : St c O X F ad hp loc sc env s) : ∀ b, X b → ∃ o, s.heap.get? b = some o := fun b q => (S.sr.xin b q).2
theorem St.old (S : St c O X F ad hp loc sc env s) {b : Addr} (n : s.heap.get? b = none) : c.s₀.heap.get? b = none := by
  induction e : c.s₀.heap.get? b with
  | none => rfl
  | some o => have := S.sr.keep b o e; rw [n] at this; injection this
theorem PS.subX {out : Out} {Q : Flow → Shared → Prop} (k : PS c X F sc env s O ad out loc' hp' Q) {s' : Shared} {O' : Addr → Prop} {ad' : AdT} {fl : Flow} (S' : St c O' X' F ad' hp' loc' sc env s') (le : ∀ b, X b → X' b) (t : Step s.heap (U O F) s'.heap (U O' F)) (p : Prefix ad ad')
    (r : OutRel s'.heap O' X' ad' out fl) : Q fl s' := by
  refine k s' O' ad' fl (S'.reX (h' := s'.heap) (tk := s'.toks) (Kp.refl _) (fun b q => .inl (le b q)) fun b q => S'.xlive b (le b q)) t p ?_
  induction out with
  | next => exact r
  | ret rv =>
    obtain ⟨v, e, r⟩ := r
    exact ⟨v, e, r.reX (Kp.refl _) fun b q => .inl (le b q)⟩
inductive FInv (c : Cx) (sc : Sc) (X F : Addr → Prop) (env : Env) (N : Nat) (Ev : Nat → Loc → Hp → Prop) (Sx : Nat → Heap → Prop) (s : Shared) (O : Addr → Prop) (ad : AdT) (n : Nat) (s' : Shared) : Prop
  | mk (i : Nat) (O1 : Addr → Prop) (ad1 : AdT) (loc1 : Loc) (hp1 : Hp) (hn : n + i = N) (e : Ev i loc1 hp1) (S : St c O1 X F ad1 hp1 loc1 sc env s') (st : Sx i s'.heap) (t : Step s.heap (U O F) s'.heap (U O1 F)) (p : Prefix ad ad1)
theorem for_any {prog : Program} {w : World} {Rf : Flow → Shared → Prop} {te : Expr} {it : Value} {eb : List Stmt} (I : Nat → Shared → Prop)
    (turn : ∀ n s, I n s → ∀ (N : Option Value → Shared → Prop) (B : Flow → Shared → Prop), (∀ s1, Rf .next s1 → N none s1) →
      (∀ v s1, wpAny (model prog w) A (letOwnedTupleGo te it v) (fun _ s2 => wpAny (model prog w) A (assign te env v) (fun _ s3 => wpAny (model prog w) A (execs eb env) B NoE s3) NoE s2) NoE s1 → N (some v) s1) →
      (∀ s1, (∃ m, m < n ∧ I m s1) → B .next s1) → (∀ v s1, Rf (.ret v) s1 → B (.ret v) s1) → wpAny (model prog w) A (pyNext it) N NoE s)
    (n : Nat) (h : I n s) : codeAny (model prog w) A (.forLoop te it eb [] env) (fun r s' => match r with | .ok f => Rf f s' | .error e => cameBackBy (model prog w) A env NoE e s') s :=
  codeAny_forLoop_any I (fun n s hI => noE (turn n s hI _ (fun f s1 => match f with
      | .next | .cont => ∃ m, m < n ∧ I m s1
      | .brk => Rf .next s1
      | .ret v => Rf (.ret v) s1) (fun s1 h => wpAny_pure h) (fun v s1 h => noE (wpAny_mono h (fun _ s2 h => noE (wpAny_mono h (fun _ s3 h => noE h) fun _ _ f => f)) fun _ _ f => f)) (fun _ h => h) fun _ _ h => h)) n h
theorem while_any {prog : Program} {w : World} {Rf : Flow → Shared → Prop} {et : Expr} {eb : List Stmt} (I : Nat → Shared → Prop)
    (turn : ∀ n s, I n s → ∀ (T : Bool → Shared → Prop) (B : Flow → Shared → Prop), (∀ s1, Rf .next s1 → T false s1) → (∀ s1, wpAny (model prog w) A (execs eb env) B NoE s1 → T true s1) →
      (∀ s1, (∃ m, m < n ∧ I m s1) → B .next s1) → (∀ v s1, Rf (.ret v) s1 → B (.ret v) s1) → wpAny (model prog w) A (isTrue et env (eval et env)) T NoE s)
    (n : Nat) (h : I n s) : codeAny (model prog w) A (.whileLoop et eb [] env) (fun r s' => match r with | .ok f => Rf f s' | .error e => cameBackBy (model prog w) A env NoE e s') s :=
  codeAny_whileLoop I (fun n s hI => noE (turn n s hI _ (fun f s1 => match f with
      | .next | .cont => ∃ m, m < n ∧ I m s1
      | .brk => Rf .next s1
      | .ret v => Rf (.ret v) s1) (fun s1 h => wpAny_pure h) (fun s1 h => noE h) (fun _ h => h) fun _ _ h => h)) n h
section
variable {P : Prog} {C : CallT} {r : EV} {K KB : CE → Expr → Bool} {KS : CS → Stmt → Bool}
variable (IHE : ∀ X ce e, K ce e = true → OkE c A sc X F env e (fun l h => r.E l h ce)) (IHB : ∀ X ce e, KB ce e = true → OkB c A sc X F env e (fun l h => r.B l h ce))
  (IHS : ∀ X cs st, KS cs st = true → OkS c A sc X F env st (fun l h => r.S l h cs))
theorem PS.of {out : Out} {Q B : Flow → Shared → Prop} (k : PS c X F sc env s O ad out loc' hp' Q) (h1 : out = .next → ∀ s1, Q .next s1 → B .next s1) (h2 : ∀ v s1, Q (.ret v) s1 → B (.ret v) s1) : PS c X F sc env s O ad out loc' hp' B := fun s' O' ad' fl S t p r => by
  have q := k s' O' ad' fl S t p r
  induction out with
  | next => subst r; exact h1 rfl _ q
  | ret rv => obtain ⟨v, rfl, _⟩ := r; exact h2 _ _ q
include IHB IHS in
theorem s_whil {t body et eb pos} (ht : KB t et = true) (hb : chkSL KS body eb = true) : OkS c A sc X F env (.While et eb [] pos) (fun l h => stepS P C r l h (.whil t body)) := fun O ad loc hp s out loc' hp' Q S ev k => by
  refine wpAny_While (while_any (FInv c sc X F env whileFuel (fun i l h => i ≤ whileFuel ∧ whileGo (fun l h => r.B l h t) (fun l h => block r.S body l h) (whileFuel - i) l h = some (out, loc', hp')) (fun _ _ => True) s O ad) ?_ whileFuel
    ⟨0, O, ad, loc, hp, rfl, ⟨Nat.zero_le _, ev⟩, S, trivial, Step.refl _ _, .refl _⟩)
  intro n s1 hI T B kF kT kN kR
  obtain ⟨i, O1, ad1, loc1, hp1, hn, ⟨hi, e⟩, S1, _, t1, p1⟩ := hI
  rw [← Nat.eq_sub_of_add_eq hn] at e
  induction n with
  | zero => exact nS e
  | succ n =>
    refine obn_e e fun x hp2 e2 e => IHB X t et ht _ _ _ _ _ _ _ _ S1 e2 fun s2 O2 ad2 H2 t2 p2 => ?_
    induction x with
    | true =>
      have S2 := S1.step H2 t2 p2
      refine kT _ (obs_e e (fun loc3 hp3 e3 e => n_block IHS hb X _ _ _ _ _ _ _ _ _ S2 e3 fun s3 O3 ad3 fl S3 t3 p3 r3 => ?_) fun v hv e => n_block IHS hb X _ _ _ _ _ _ _ _ _ S2 e ((k.trans (t1.trans (t2.av F)) (p1.trans p2)).of (fun q => by cases q.symm.trans hv) kR))
      subst r3
      exact kN _ ⟨n, Nat.lt_succ_self _, i + 1, O3, ad3, loc3, hp3, by lia, ⟨by lia, by rw [show whileFuel - (i + 1) = n by lia]; exact e⟩, S3, trivial, (t1.trans (t2.av F)).trans t3, (p1.trans p2).trans p3⟩
    | false => exact kF _ ((k.eq e) s2 O2 ad2 _ (S1.step H2 t2 p2) (t1.trans (t2.av F)) (p1.trans p2) rfl)
include IHS in
theorem for_core {ct te body eb} (ok : c.OK) (hh : A.handled = none) (hT : chkT (okVar c.toNm sc) ct te = true) (hb : chkSL KS body eb = true) {items : List V} {out : Out} {Q : Flow → Shared → Prop} {I : Addr} {o : Obj} {fp : List Addr} {PP : Nat → Value → Prop} {Sx : Nat → Heap → Prop}
    (S1 : St c O X F ad hp loc sc env s) (it : Iter c A (U O X) items I s.heap fp PP Sx) (hI : I = s.heap.objs.size) (st0 : Sx 0 (s.heap.push o))
    (ev : forGo (forB r ct body) items loc hp = some (out, loc', hp')) (k : PS c X F sc env s O ad out loc' hp' Q) :
    codeAny (model c.prog c.w) A (.forLoop te (.ref I) eb [] env) (fun r s' => match r with | .ok f => Q f s' | .error e => cameBackBy (model c.prog c.w) A env NoE e s') { s with heap := s.heap.push o } := by
  have kp0 : Kp s.heap (s.heap.push o) := Kp.push _ _
  have hX0 : ∀ b, (fun b => X b ∨ b = I) b → X b ∨ s.heap.get? b = none := fun b q => q.elim .inl fun e => .inr (e ▸ it.new)
  have nI : c.s₀.heap.get? I = none := S1.old it.new
  refine for_any (FInv c sc (fun b => X b ∨ b = I) F env items.length (fun i l h => forGo (forB r ct body) (items.drop i) l h = some (out, loc', hp')) Sx s O ad) ?_ items.length
    ⟨0, O, ad, loc, hp, rfl, ev, S1.reX (tk := s.toks) kp0 hX0 fun b q => q.elim (fun q => by obtain ⟨o, e⟩ := S1.xlive b q; exact ⟨o, kp0 _ _ e⟩) fun e => (by
      obtain ⟨o', _, _, ho, _⟩ := it.data 0 _ st0
      exact ⟨o', e ▸ ho⟩), st0, Step.stay kp0, .refl _⟩
  intro n s' hI N B kN kS kB kR
  obtain ⟨i, O1, ad1, loc1, hp1, hn, e, S3, st, t, p⟩ := hI
  obtain ⟨oi, ni, vi, hoi, hci, hni, hdi⟩ := it.data i _ st
  by_cases hlt : i < items.length
  · refine it.W.item i s' _ _ hlt st fun v h' tk hP st' hk => kS _ _ ?_
    obtain ⟨oi', ni', vi', hoi', hci', hni', hdi'⟩ := it.data (i + 1) _ st'
    have xt : XTurn c (fun b => X b ∨ b = I) (fun b => X b ∨ b = I) s'.heap h' (fun b => b = I) := .one (.inr rfl) (fun _ q => q) hk (fun _ => ⟨_, hoi'⟩) ⟨oi, hoi, .inr ⟨_, hdi⟩⟩ nI
    have S4 := S3.turnX (tk := tk) xt
    have t4 : Step s.heap (U O F) h' (U O1 F) := t.turnNew (T := fun b => b = I) xt.k fun b z => z ▸ it.new
    obtain ⟨x, hx, rx⟩ := it.rep i v hP hlt
    refine own_go hoi' hci' hni' hdi' ?_
    rw [List.drop_eq_getElem_cons hlt, Option.some.inj ((List.getElem?_eq_getElem hlt).symm.trans hx)] at e
    refine obs_e e (fun loc2 hp2 e2 e => vS_e e2 fun l1 b1 e2 => t_bind ok hh ct hT b1 S4 (Rep.far S1.en t4 hX0 rx) fun s5 S5 t5 => n_block IHS hb _ _ _ _ _ _ _ _ _ _ S5 e2 fun s6 O6 ad6 fl S6 t6 p6 r6 => ?_)
      fun v hv e => vS_e e fun l1 b1 e => t_bind ok hh ct hT b1 S4 (Rep.far S1.en t4 hX0 rx) fun s5 S5 t5 => n_block IHS hb _ _ _ _ _ _ _ _ _ _ S5 e (PS.of (fun s6 O6 ad6 fl S6 t6 p6 r6 => k.subX S6 (fun b q => .inl q) ((t4.trans t5).trans t6) (p.trans p6) r6) (fun q => by cases q.symm.trans hv) kR)
    subst r6
    refine kB _ ⟨n - 1, by lia, i + 1, O6, ad6, loc2, hp2, by lia, e, S6, it.W.frame _ _ _ st' (fun b hb o ho => ?_), (t4.trans t5).trans t6, p.trans p6⟩
    have keep : ¬ U O1 F b → s6.heap.get? b = some o := fun nb => t6.keep b o (t5.not ho nb) (t5.keep b o nb ho)
    rcases it.own b hb with rfl | ⟨ny, ob, hob, its, m, hd⟩
    · exact keep fun z => z.elim (S4.sr.xin _ (.inr rfl)).1 (S4.en.notF hoi' (.inr ⟨_, hdi'⟩))
    · exact keep (t4.not hob fun z => z.elim (fun z => ny (.inl z)) (S1.en.notF hob (.inl ⟨_, _, hd⟩)))
  · have hi : i = items.length := by lia
    subst hi
    rw [List.drop_length] at e
    cases e
    refine it.W.done s' _ _ st fun h' tk hk => kN _ ?_
    have xt : XTurn c (fun b => X b ∨ b = I) X s'.heap h' (fun b => b = I) := .one (.inr rfl) (fun _ q => .inl q) hk (fun q => by
      obtain ⟨o, e⟩ := S1.xlive _ q; rw [it.new] at e; injection e) ⟨oi, hoi, .inr ⟨_, hdi⟩⟩ nI
    exact k _ O1 ad1 _ (S3.turnX (tk := tk) xt) (t.turnNew (T := fun b => b = I) xt.k fun b z => z ▸ it.new) p rfl
include IHE IHS in
theorem s_for {ct ce te ie body eb pos} (ok : c.OK) (hh : A.handled = none) (h : K ce ie = true) (hs : notSet ie = true) (hT : chkT (okVar c.toNm sc) ct te = true) (hb : chkSL KS body eb = true) :
    OkS c A sc X F env (.For te ie eb [] pos) (fun l h => stepS P C r l h (.for_ ct ce body)) := fun O ad loc hp s out loc' hp' Q S ev k => by
  exact obn_e ev fun v hp1 e1 ev => wpAny_For (IHE X ce ie h _ _ _ _ _ _ _ _ S e1 fun v1 s1 O1 ad1 H1 t1 p1 r1 => rVal_e ev r1 fun iv _ r1 ev => vS_e ev fun items e2 ev =>
    p_iter hh r1 e2 fun o fp PP Sx it st => for_core IHS ok hh hT hb (S.step H1 t1 p1) it rfl st ev (k.trans (t1.av F) p1)) (noSetIter hs)
end
end Mine.Internal
namespace Mine.Internal
open PySem PySem.W PyProof.Rows
variable {c : Cx} {A : Around} {sc : Sc} {O O1 X X' F : Addr → Prop} {env : Env} {ad ad1 : AdT} {hp hp1 hp' : Hp} {loc loc' loc2 : Loc} {s s1 : Shared} {cl : Nat} {flds : List Nat}
noncomputable def putAll (ps : List (Nat × RV)) (loc : Loc) : Loc := ps.foldl (fun l p => setL p.1 p.2 l) loc
theorem lookup_putAll : ∀ (ps : List (Nat × RV)) (loc : Loc) (y : Nat), (ps.map (·.1)).Nodup → lookupL y (putAll ps loc) = (lookupL y ps).or (lookupL y loc)
  | [] => @fun loc y _ => rfl
  | (x, v) :: r => @fun loc y nd => by
    rw [List.map_cons, List.nodup_cons] at nd
    show lookupL y (putAll r (setL x v loc)) = _
    simp only [lookup_putAll r _ y nd.2, lookupL_setL]
    show ((lookupL y r).or (if y = x then some v else lookupL y loc)) = (if y = x then some v else lookupL y r).or (lookupL y loc)
    by_cases z : y = x
    · subst z
      have : lookupL y r = none := by
        induction q : lookupL y r with
        | none => rfl
        | some v' => exact absurd (List.mem_map.mpr ⟨_, mem_of_lookupL q, rfl⟩) nd.1
      simp [this]
    · simp only [if_neg z]
theorem nodup_rev {l : List Nat} (nd : l.Nodup) : l.reverse.Nodup := List.pairwise_reverse.mpr (List.Pairwise.imp Ne.symm nd)
theorem zip_rev {α β : Type} : ∀ {xs : List α} {ys : List β}, xs.length = ys.length → xs.reverse.zip ys.reverse = (xs.zip ys).reverse
  | [], [] => @fun _ => rfl
  | [], _ :: _ => @fun h => by simp at h
  | _ :: _, [] => @fun h => by simp at h
  | x :: xs, y :: ys => @fun h => by
    have h' : xs.length = ys.length := by simpa using h
    rw [List.reverse_cons, List.reverse_cons, List.zip_append (by simp [h']), zip_rev h']; simp
theorem lookup_of_mem : ∀ {ps : List (Nat × RV)} {x : Nat} {v : RV}, (ps.map (·.1)).Nodup → (x, v) ∈ ps → lookupL x ps = some v
  | [], _, _ => @fun _ m => nM m
  | (y, w) :: r, x, v => @fun nd m => by
    rw [List.map_cons, List.nodup_cons] at nd
    unfold lookupL
    rcases List.mem_cons.mp m with e | m
    · rcases e with ⟨⟩; simp
    · have : x ≠ y := fun e => nd.1 (e ▸ List.mem_map.mpr ⟨_, m, rfl⟩)
      rw [if_neg this]; exact lookup_of_mem nd.2 m
theorem lookup_reverse {ps : List (Nat × RV)} (nd : (ps.map (·.1)).Nodup) (y : Nat) : lookupL y ps.reverse = lookupL y ps := by
  have nr : (ps.reverse.map (·.1)).Nodup := by rw [List.map_reverse]; exact nodup_rev nd
  induction q : lookupL y ps with
  | some v => exact lookup_of_mem nr (List.mem_reverse.mpr (mem_of_lookupL q))
  | none =>
    induction q' : lookupL y ps.reverse with
    | none => rfl
    | some v => rw [lookup_of_mem nd (List.mem_reverse.mp (mem_of_lookupL q'))] at q; injection q
theorem LocRel.congr {h : Heap} (e : ∀ y, lookupL y loc2 = lookupL y loc) (l : LocRel c h O X ad env loc) : LocRel c h O X ad env loc2 := fun y rv q => l y rv (by rw [← e]; exact q)
theorem St.congr (S : St c O X F ad hp loc sc env s) (e : ∀ y, lookupL y loc2 = lookupL y loc) : St c O X F ad hp loc2 sc env s := ⟨S.sr, S.en, S.lo.congr e⟩
noncomputable def Stores (c : Cx) (A : Around) (env : Env) (x : Nat) (f : Value → Sem Unit) : Prop := ∀ v s Q, wpAny (model c.prog c.w) A (storeName env (c.nm x) v) Q NoE s → wpAny (model c.prog c.w) A (f v) Q NoE s
inductive StoresAll (c : Cx) (A : Around) (sc : Sc) (env : Env) : List Nat → List (Value → Sem Unit) → Prop
  | nil : StoresAll c A sc env [] []
  | cons {x xs f fs} : x < c.N → (sc.lookup (c.nm x) = some .local ∨ sc.lookup (c.nm x) = some .cell) → Stores c A env x f → StoresAll c A sc env xs fs → StoresAll c A sc env (x :: xs) (f :: fs)
theorem store_all (ok : c.OK) {xs : List Nat} {fs : List (Value → Sem Unit)} (H : StoresAll c A sc env xs fs) : ∀ {rvs : List RV} {vs : List Value} {loc : Loc} {s : Shared} {Q : Unit → Shared → Prop}, xs.length = rvs.length → St c O X F ad hp loc sc env s → RepRVs s.heap (U O X) ad rvs vs →
    (∀ s', St c O X F ad hp (putAll (xs.zip rvs) loc) sc env s' → Step s.heap (U O F) s'.heap (U O F) → Q () s') → wpAny (model c.prog c.w) A (assignInOrder fs vs) Q NoE s := by
  induction H with
  | nil =>
    intro rvs vs loc s Q hl S r k
    induction rvs with
    | cons _ _ => exact Nat.noConfusion hl
    | nil => subst r; exact wpAny_pure (k s S (Step.refl _ _))
  | cons hx hk hf _ ih =>
    intro rvs vs loc s Q hl S r k
    rcases rvs with _ | ⟨rv, rvs⟩
    · exact Nat.noConfusion hl
    · obtain ⟨v, rs, rfl, r1, r2⟩ := r
      refine wpAny_bind (wpAny_holding (hf v s _ (S.storeVar ok hx hk r1 fun s1 S1 t1 => ?_)))
      have r2' : RepRVs s1.heap (U O X) ad rvs rs := r2.mono (fun b o n g d => ⟨t1.keep b o (fun z => z.elim (fun z => n (.inl z)) (S.en.notF g d)) g, n⟩) (.refl _)
      exact ih (Nat.succ.inj hl) S1 r2' fun s2 S2 t2 => k s2 S2 (t1.trans t2)
theorem RepRVs.snoc {h : Heap} {rvs : List RV} {rv : RV} {v : Value} : ∀ {vs : List Value}, RepRVs h O ad rvs vs → RepRV h O ad rv v → RepRVs h O ad (rvs ++ [rv]) (vs ++ [v]) := by
  induction rvs with
  | nil => intro vs e r; subst e; exact ⟨v, [], rfl, r, rfl⟩
  | cons _ _ ih =>
    intro vs q r
    obtain ⟨w, rs, e, a, b⟩ := q
    subst e
    exact ⟨w, _, rfl, a, ih b r⟩
theorem RepRVs.reverse {h : Heap} {rvs : List RV} : ∀ {vs : List Value}, RepRVs h O ad rvs vs → RepRVs h O ad rvs.reverse vs.reverse := by
  induction rvs with
  | nil => intro vs e; subst e; rfl
  | cons _ _ ih =>
    intro vs q
    obtain ⟨w, rs, e, a, b⟩ := q
    subst e
    rw [List.reverse_cons, List.reverse_cons]; exact (ih b).snoc a
theorem StoresAll.snoc {xs : List Nat} {fs : List (Value → Sem Unit)} {x : Nat} {f : Value → Sem Unit} (h : StoresAll c A sc env xs fs) (a : x < c.N) (b : sc.lookup (c.nm x) = some .local ∨ sc.lookup (c.nm x) = some .cell) (d : Stores c A env x f) : StoresAll c A sc env (xs ++ [x]) (fs ++ [f]) := by
  induction h with
  | nil => exact .cons a b d .nil
  | cons p q r _ ih => exact .cons p q r ih
theorem StoresAll.reverse {xs : List Nat} {fs : List (Value → Sem Unit)} (h : StoresAll c A sc env xs fs) : StoresAll c A sc env xs.reverse fs.reverse := by
  induction h with
  | nil => exact .nil
  | cons p q r _ ih => rw [List.reverse_cons, List.reverse_cons]; exact ih.snoc p q r
theorem chkNames_c {f : Nat → Str → Bool} {x : Nat} {xs : List Nat} {e : Expr} {es : List Expr} (h : chkNames f (x :: xs) (e :: es) = true) : onName e (f x) = true ∧ chkNames f xs es = true := (Bool.and_eq_true _ _).mp h
theorem names_all : ∀ {xs : List Nat} {es : List Expr}, chkNames (okVar c.toNm sc) xs es = true →
    es.length = xs.length ∧ (∀ e ∈ es, notStar e = true) ∧ StoresAll c A sc env xs ((assignEach es env).map (·.2)) ∧ StoresAll c A sc env xs ((xs.map c.nm).map fun n => bindName env n)
  | [], [] => @fun _ => ⟨rfl, fun e m => nM m, .nil, .nil⟩
  | [], _ :: _ => @fun h => by injection h
  | _ :: _, [] => @fun h => by injection h
  | x :: xs, e :: es => @fun h => by
    obtain ⟨i1, i2, i3, i4⟩ := names_all (es := es) (chkNames_c h).2
    refine onName_e (chkNames_c h).1 fun y p h => ?_
    obtain ⟨hx, rfl, hk⟩ := okVar_of h
    refine ⟨by simp [i1], fun e m => ?_, ?_, ?_⟩
    · rcases List.mem_cons.mp m with rfl | m
      · rfl
      · exact i2 e m
    · rw [assignEach_cons rfl]
      exact .cons hx hk (fun v s Q h => PyProof.Rows.assign_Name h) i3
    · exact .cons hx hk (fun v s Q h => wpAny_bindName h) i4
theorem names_filter (env : Env) (line : Nat) (ok : c.OK) : ∀ {xs : List Nat} {es : List Expr}, chkNames (okVar c.toNm sc) xs es = true →
    (es.filterMap fun | .Name id pos => if env.kindOf id == some .local && pos.line == line then some id else none | _ => none).length = es.length →
    (es.filterMap fun | .Name id pos => if env.kindOf id == some .local && pos.line == line then some id else none | _ => none) = xs.map c.nm
  | [], [] => @fun _ _ => rfl
  | [], _ :: _ => @fun h _ => by injection h
  | _ :: _, [] => @fun h _ => by injection h
  | x :: xs, e :: es => @fun h hl => by
    revert hl
    have h2 := (chkNames_c h).2
    refine onName_e (chkNames_c h).1 fun y p h1 hl => ?_
    obtain ⟨hx, rfl, hk⟩ := okVar_of h1
    have hle : (es.filterMap fun | .Name id pos => if env.kindOf id == some .local && pos.line == line then some id else none | _ => none).length ≤ es.length := List.length_filterMap_le _ _
    by_cases z : (env.kindOf (c.nm x) == some .local && p.line == line) = true
    · rw [List.filterMap_cons_some (f := fun | .Name id pos => if env.kindOf id == some .local && pos.line == line then some id else none | _ => none) (a := .Name (c.nm x) p) (l := es) (b := c.nm x) (if_pos z)] at hl ⊢
      rw [names_filter env line ok h2 (Nat.succ.inj hl)]; rfl
    · rw [List.filterMap_cons_none (f := fun | .Name id pos => if env.kindOf id == some .local && pos.line == line then some id else none | _ => none) (a := .Name (c.nm x) p) (l := es) (if_neg z)] at hl
      exact absurd hl (Nat.ne_of_lt (Nat.lt_succ_of_le hle))
theorem or_bne {a b c d : Nat} (q : ¬((a != b || c != d) = true)) : a = b := by
  rw [Bool.or_eq_true, bne_iff_ne, ne_eq, not_or, Decidable.not_not] at q
  exact q.1
theorem swapped_cases (ok : c.OK) {xs : List Nat} {es vs : List Expr} {k k' : Nat} {p p' : Pos} (h : chkNames (okVar c.toNm sc) xs es = true) (hv : vs.all (constantsAlone 8) = false) :
    swappedStores [.Tuple es k p] (.Tuple vs k' p') env = pure none ∨ swappedStores [.Tuple es k p] (.Tuple vs k' p') env = pure (some (xs.map c.nm)) := by
  delta swappedStores
  dsimp only
  split
  · exact .inl rfl
  · split
    · exact .inl rfl
    · split
      · exact .inl rfl
      · rename_i q
        split
        · exact .inl rfl
        · rw [hv]
          refine .inr ?_
          rw [if_neg (by decide)]
          exact congrArg (fun z => (pure (some z) : Sem (Option (List Str)))) (names_filter env _ ok h (or_bne q))
section
variable {P : Prog} {C : CallT} {r : EV} {K KB : CE → Expr → Bool} {KS : CS → Stmt → Bool}
variable (IHE : ∀ X ce e, K ce e = true → OkE c A sc X F env e (fun l h => r.E l h ce))
include IHE in
theorem s_asgT {xs ces es vs k tp k' vp pos} (ok : c.OK) (hh : A.handled = none) (h : chkL K ces vs = true) (hl : ces.length ≤ 64) (hn : chkNames (okVar c.toNm sc) xs es = true) (nd : xs.Nodup) (hc : vs.all (constantsAlone 8) = false) :
    OkS c A sc X F env (.Assign [.Tuple es k tp] (.Tuple vs k' vp) pos) (fun l h => stepS P C r l h (.asgT xs ces)) := fun O ad loc hp s out loc' hp' Q S ev kk => by
  refine obn_e ev fun rvs hp1 e1 ev => oIf_e ev fun hlen ev => ?_
  revert kk
  refine oT_e ev fun kk => ?_
  obtain ⟨z1, z2, z3, z4⟩ := names_all (A := A) (env := env) hn
  have hs : swapsWithSole [.Tuple es k tp] (.Tuple vs k' vp) pos.line env = pure false := by unfold swapsWithSole; exact swaps_not rfl
  have hlr : xs.length = rvs.length := hlen.symm
  have build : ∀ {Q : Value → Shared → Prop}, (∀ t s1 O1 ad1 vals, SR c s1 O1 X ad1 hp1 → Step s.heap O s1.heap O1 → Prefix ad ad1 → s1.heap.IsTuple t vals.toArray → RepRVs s1.heap (U O1 X) ad1 rvs vals → Q (.ref t) s1) → wpAny (model c.prog c.w) A (eval (.Tuple vs k' vp) env) Q NoE s := fun q => by
    refine Tuple_ (n_args vp (IHE X) h S e1 fun vals s1 O1 ad1 H1 t1 p1 r1 => ?_)
    have hz : vals.length ≤ 4096 := by simp only [r1.length, evR_len e1]; lia
    refine wpAny_newObj_type ?_ (by show vals.toArray.size ≤ sizeLine; rw [List.size_toArray]; exact line_4096 hz)
    have kp := Kp.push s1.heap (tupObj vals 0)
    exact q _ _ O1 ad1 vals (H1.stay (tk := s1.toks) kp) (t1.trans (Step.stay kp)) p1 (isTup_of (Heap.get?_push_size _ rfl)) (r1.step ((Step.stay kp : Step s1.heap O1 _ O1).av X) (.refl _))
  have fin : ∀ {s1 : Shared} {O1 : Addr → Prop} {ad1 : AdT} {l2 : Loc}, Step s.heap O s1.heap O1 → Prefix ad ad1 → ∀ s', St c O1 X F ad1 hp1 l2 sc env s' → (∀ y, lookupL y (putAll (xs.zip rvs) loc) = lookupL y l2) → Step s1.heap (U O1 F) s'.heap (U O1 F) → Q .next s' :=
    fun t1 p1 s' S' e t => kk s' _ _ _ (S'.congr e) ((t1.av F).trans t) p1 rfl
  have zmap : (xs.zip rvs).map (·.1) = xs := List.map_fst_zip (by lia)
  rcases swapped_cases (env := env) ok (k := k) (p := tp) (k' := k') (p' := vp) hn hc with hw | hw
  · refine Assign_Tuple (build fun t s1 O1 ad1 vals H1 t1 p1 ht r1 => ?_) hs hw
    have S1 := S.step H1 t1 p1
    have hz := assignEach_len (env := env) z2
    refine wpAny_assign_Tuple hh ht (by simp only [hz.1, List.size_toArray, r1.length, z1, hlr]) hz.2 fun h' hsb => ?_
    have kp : Kp s1.heap h' := fun b o e => hsb b o (Nat.ne_of_lt (Heap.lt_size e)) e
    rw [List.toList_toArray]
    refine store_all ok z3 hlr (S1.kp (tk := s1.toks) kp) (r1.step ((Step.stay kp : Step s1.heap O1 _ O1).av X) (.refl _)) fun s' S' t => ?_
    exact fin (t1.trans (Step.stay kp)) p1 s' S' (fun y => rfl) t
  · refine Assign_Tuple_swapped (build fun t s1 O1 ad1 vals H1 t1 p1 ht r1 => ?_) hs hw
    have S1 := S.step H1 t1 p1
    have hln : (xs.map c.nm).length = vals.toArray.size := by simp only [List.length_map, List.size_toArray, r1.length, hlr]
    rw [hln]
    refine wpAny_unpackItems_tuple hh ht fun h' hsb => ?_
    have kp : Kp s1.heap h' := fun b o e => hsb b o (Nat.ne_of_lt (Heap.lt_size e)) e
    rw [List.toList_toArray]
    have z5 : StoresAll c A sc env xs.reverse ((xs.map c.nm).reverse.map fun n => bindName env n) := by
      have := z4.reverse
      rwa [← List.map_reverse] at this
    refine store_all ok z5 (rvs := rvs.reverse) (by simp [hlr]) (S1.kp (tk := s1.toks) kp) (r1.step ((Step.stay kp : Step s1.heap O1 _ O1).av X) (.refl _)).reverse fun s' S' t => ?_
    refine fin (t1.trans (Step.stay kp)) p1 s' S' (fun y => ?_) t
    have zr : xs.reverse.zip rvs.reverse = (xs.zip rvs).reverse := zip_rev hlr
    simp only [zr, lookup_putAll _ _ _ (by rw [zmap]; exact nd), lookup_putAll _ _ _ (by rw [List.map_reverse, zmap]; exact nodup_rev nd), lookup_reverse (by rw [zmap]; exact nd)]
end
end Mine.Internal
namespace Mine.Internal
open PySem PySem.W PyProof.Rows
variable {c : Cx} {A : Around} {sc : Sc} {O O1 X X' F : Addr → Prop} {env : Env} {ad ad1 : AdT} {hp hp1 hp' : Hp} {loc loc' loc2 : Loc} {s s1 : Shared} {cl : Nat} {flds : List Nat}
theorem cellsFrom_c {p : Str × NameKind} {r : List (Str × NameKind)} {n : Nat} {acc : List (Str × Addr)} : cellsFrom n (p :: r) acc = if (p.2 == .cell) = true then cellsFrom (n + 1) r ((p.1, n) :: acc) else cellsFrom n r acc := by kernel_rfl
theorem cellsFrom_app (names : List (Str × NameKind)) : ∀ (n : Nat) (acc : List (Str × Addr)), cellsFrom n names acc = cellsFrom n names [] ++ acc := by
  induction names with
  | nil => exact fun _ _ => rfl
  | cons p r ih =>
    intro n acc
    rw [cellsFrom_c, cellsFrom_c]
    by_cases q : (p.2 == .cell) = true
    · rw [if_pos q, if_pos q, ih (n + 1) ((p.1, n) :: acc), ih (n + 1) [(p.1, n)], List.append_assoc]; rfl
    · rw [if_neg q, if_neg q]; exact ih n acc
theorem cellsFrom_mem {x : Str} {a : Addr} {names : List (Str × NameKind)} : ∀ {n : Nat}, (x, a) ∈ cellsFrom n names [] → (x, NameKind.cell) ∈ names := by
  induction names with
  | nil => exact fun h => nM h
  | cons p r ih =>
    intro n h
    rw [cellsFrom_c] at h
    by_cases q : (p.2 == .cell) = true
    · rw [if_pos q, cellsFrom_app] at h
      refine (List.mem_append.mp h).elim (fun h => .tail _ (ih h)) fun h => ?_
      rw [(Prod.mk.inj (List.mem_singleton.mp h)).1, ← beq_iff_eq.mp q]; exact .head _
    · rw [if_neg q] at h; exact .tail _ (ih h)
theorem lookup_mem_nodup {β : Type} {l : List (Str × β)} {x : Str} {k : β} : (l.map (·.1)).Nodup → (x, k) ∈ l → l.lookup x = some k := by
  induction l with
  | nil => exact fun _ m => nM m
  | cons p r ih =>
    intro nd m
    obtain ⟨n1, n2⟩ := List.nodup_cons.mp (show (p.1 :: r.map (·.1)).Nodup from nd)
    rw [List.lookup_cons]
    rcases List.mem_cons.mp m with e | m
    · subst e; rw [beq_self_eq_true]
    · rw [beq_false_of_ne (show x ≠ p.1 from fun e => n1 (e ▸ List.mem_map.mpr ⟨(x, k), m, rfl⟩))]
      exact ih n2 m
theorem lookup_app {β : Type} (l r : List (Str × β)) (x : Str) : (l ++ r).lookup x = (l.lookup x).or (r.lookup x) := by
  induction l with
  | nil => rfl
  | cons p l ih =>
    rw [List.cons_append, List.lookup_cons, List.lookup_cons]
    rcases x == p.1 with _ | _
    · exact ih
    · rfl
theorem pushCells_c {p : Str × NameKind} {r : List (Str × NameKind)} {h : Heap} : pushCells h (p :: r) = if (p.2 == .cell) = true then pushCells (h.push { cls := .type "cell", data := .cell none }) r else pushCells h r := by kernel_rfl
theorem pushCells_new (names : List (Str × NameKind)) : ∀ (h : Heap) (b : Addr), h.objs.size ≤ b → b < (pushCells h names).objs.size → ∃ o, (pushCells h names).get? b = some o ∧ ∃ v, o.data = .cell v := by
  induction names with
  | nil => exact fun h b h1 h2 => absurd h2 (Nat.not_lt.mpr h1)
  | cons p r ih =>
    intro h b h1
    rw [pushCells_c]
    by_cases q : (p.2 == .cell) = true
    · rw [if_pos q]
      intro h2
      by_cases e : b = h.objs.size
      · subst e
        exact ⟨_, pushCells_keeps r _ _ _ (Heap.get?_push_size _ rfl), _, rfl⟩
      · refine ih _ b ?_ h2
        rw [Heap.size_push]
        exact Nat.succ_le_of_lt (Nat.lt_of_le_of_ne h1 (Ne.symm e))
    · rw [if_neg q]
      exact ih h b h1
theorem pushCells_size (names : List (Str × NameKind)) : ∀ (h : Heap), h.objs.size ≤ (pushCells h names).objs.size := by
  induction names with
  | nil => exact fun h => Nat.le_refl _
  | cons p r ih =>
    intro h
    rw [pushCells_c]
    by_cases q : (p.2 == .cell) = true
    · rw [if_pos q]
      have z := ih (h.push { cls := .type "cell", data := .cell none })
      rw [Heap.size_push] at z
      exact Nat.le_of_succ_le z
    · rw [if_neg q]
      exact ih h
structure Clo (h : Heap) (O : Addr → Prop) (cl : List (Str × Addr)) : Prop where
  cell : ∀ n a, cl.lookup n = some a → (∃ v, h.IsCell a v) ∧ ¬ O a
  inj : ∀ n n' a, cl.lookup n = some a → cl.lookup n' = some a → n = n'
theorem enter {names : Sc} {cl : List (Str × Addr)} {T : String} {tk : Nat} (H : SR c s O X ad hp) (C : Clo s.heap O cl) (nd : (names.map (·.1)).Nodup) (hfree : ∀ n, names.lookup n = some .free → ∃ a, cl.lookup n = some a)
    (hk : env.scope.kind = .function) (hg : env.globals = mainGlobals) (hb : env.builtins = builtinsNs) (hl : env.locals = s.heap.objs.size) (hc : env.cells = cellsFrom (s.heap.objs.size + 1) names cl)
    (kinds : ∀ n k, names.lookup n = some k → env.kindOf n = some k ∨ (k = .free ∧ env.kindOf n = some .cell)) (kinds' : ∀ n, env.kindOf n = some .cell ∨ env.kindOf n = some .free → names.lookup n = some .cell ∨ names.lookup n = some .free) :
    ∃ F, St c O X F ad hp [] names env { s with heap := pushCells (s.heap.push { cls := .type T, data := .dict #[] }) names, toks := tk } ∧ Kp s.heap (pushCells (s.heap.push { cls := .type T, data := .dict #[] }) names) ∧ (∀ b, F b → s.heap.get? b = none) := by
  have hz : (s.heap.push { cls := .type T, data := .dict #[] }).objs.size = s.heap.objs.size + 1 := Heap.size_push ..
  have kp : Kp s.heap (pushCells (s.heap.push { cls := .type T, data := .dict #[] }) names) := fun b o e => pushCells_keeps _ _ b o (Heap.get?_push_of_some _ e)
  have ok := cellsFrom_ok names (s.heap.push { cls := .type T, data := .dict #[] }) (s.heap.objs.size + 1) [] ⟨fun _ _ hm => (nomatch hm), List.Pairwise.nil⟩ (by rw [hz]; exact Nat.le_refl _)
  rw [hz] at ok
  generalize hH : pushCells (s.heap.push { cls := .type T, data := .dict #[] }) names = H1 at *
  have hsz : s.heap.objs.size + 1 ≤ H1.objs.size := by rw [← hH, ← hz]; exact pushCells_size _ _
  have hL : H1.get? s.heap.objs.size = some { cls := .type T, data := .dict #[] } := by rw [← hH]; exact pushCells_keeps _ _ _ _ (Heap.get?_push_size _ rfl)
  have ns : H1.Ns s.heap.objs.size (fun _ => none) := by rw [← hH]; exact (Heap.Ns.new s.heap (.type T)).keeps (pushCells_keeps _ _)
  have look : ∀ n, env.cells.lookup n = ((cellsFrom (s.heap.objs.size + 1) names []).lookup n).or (cl.lookup n) := fun n => by rw [hc, cellsFrom_app, lookup_app]
  have own : ∀ n a, (cellsFrom (s.heap.objs.size + 1) names []).lookup n = some a → H1.IsCell a none ∧ s.heap.objs.size + 1 ≤ a ∧ names.lookup n = some .cell := fun n a e =>
    ⟨(ok.empty n a (mem_of_lookup e)).1, (ok.empty n a (mem_of_lookup e)).2, lookup_mem_nodup nd (cellsFrom_mem (mem_of_lookup e))⟩
  have noold : ∀ b, s.heap.objs.size ≤ b → s.heap.get? b = none := fun b hb => Heap.get?_none_of_le hb
  have oldlt : ∀ n a, cl.lookup n = some a → a < s.heap.objs.size := fun n a e => (C.cell n a e).1.choose_spec.lt
  have nO : ∀ b, s.heap.objs.size ≤ b → ¬ O b := fun b hb z => by
    obtain ⟨o, e⟩ := H.oin b z; rw [noold b hb] at e; cases e
  have ltc : ∀ {a v}, H1.IsCell a v → a < H1.objs.size := fun x => x.lt
  refine ⟨fun b => s.heap.objs.size ≤ b ∧ b < H1.objs.size, ⟨H.stay kp, ⟨hk, hg, hb, kinds, ⟨_, hl ▸ ns⟩, fun n hn => ?_, fun n n' a e e' => ?_, ?_, fun n a e e' => ?_, fun b fb => nO b fb.1, fun b fb => ?_, fun b fb => ?_⟩, fun y rv q => by cases q⟩, kp, fun b fb => noold b fb.1⟩
  · rw [look n]
    rcases kinds' n hn with q | q
    · have hs := cellsFrom_some names (s.heap.objs.size + 1) [] (.inl q)
      obtain ⟨a, ha⟩ := Option.isSome_iff_exists.mp hs
      obtain ⟨hcell, hle, _⟩ := own n a ha
      exact ⟨a, none, by rw [ha]; rfl, hcell, nO a (Nat.le_of_succ_le hle)⟩
    · obtain ⟨a, ha⟩ := hfree n q
      cases z : (cellsFrom (s.heap.objs.size + 1) names []).lookup n with
      | some a' => have := (own n a' z).2.2; rw [q] at this; cases this
      | none =>
        obtain ⟨⟨v, hv⟩, no⟩ := C.cell n a ha
        exact ⟨a, v, by rw [ha]; rfl, hv.keeps kp, no⟩
  · rw [look n] at e
    rw [look n'] at e'
    cases z : (cellsFrom (s.heap.objs.size + 1) names []).lookup n with
    | some b =>
      rw [z] at e; cases e
      cases z' : (cellsFrom (s.heap.objs.size + 1) names []).lookup n' with
      | some b' => rw [z'] at e'; cases e'; exact name_of_addr ok.apart (mem_of_lookup z) (mem_of_lookup z')
      | none =>
        rw [z'] at e'
        have h1 := oldlt n' a e'
        have h2 := (own n a z).2.1
        exact absurd h1 (Nat.not_lt.mpr (Nat.le_of_succ_le h2))
    | none =>
      rw [z] at e
      have h1 := oldlt n a e
      cases z' : (cellsFrom (s.heap.objs.size + 1) names []).lookup n' with
      | some b' =>
        rw [z'] at e'; cases e'
        have h2 := (own n' a z').2.1
        exact absurd h1 (Nat.not_lt.mpr (Nat.le_of_succ_le h2))
      | none => rw [z'] at e'; exact C.inj n n' a e e'
  · rw [hl]; exact ⟨Nat.le_refl _, Nat.lt_of_succ_le hsz⟩
  · rw [look n] at e'
    have hs := cellsFrom_some names (s.heap.objs.size + 1) [] (.inl e)
    obtain ⟨b, hb'⟩ := Option.isSome_iff_exists.mp hs
    rw [hb'] at e'; cases e'
    obtain ⟨hcell, hle, _⟩ := own n a hb'
    exact ⟨Nat.le_of_succ_le hle, hcell.lt⟩
  · by_cases e : b = s.heap.objs.size
    · subst e; exact ⟨_, hL, .inl ⟨_, _, rfl⟩⟩
    · have : s.heap.objs.size + 1 ≤ b := Nat.succ_le_of_lt (Nat.lt_of_le_of_ne fb.1 (Ne.symm e))
      obtain ⟨o, ho, v, hv⟩ := pushCells_new names (s.heap.push { cls := .type T, data := .dict #[] }) b (by rw [hz]; exact this) (by rw [hH]; exact fb.2)
      exact ⟨o, by rw [← hH]; exact ho, .inr ⟨v, hv⟩⟩
  · cases e : c.s₀.heap.get? b with
    | none => rfl
    | some o => have := H.keep b o e; rw [noold b fb.1] at this; cases this
end Mine.Internal
namespace Mine.Internal
open PySem PySem.W PyProof.Rows
variable {c : Cx} {A : Around} {sc : Sc} {O O1 X X' F : Addr → Prop} {env : Env} {ad ad1 : AdT} {hp hp1 hp' : Hp} {loc loc' loc2 : Loc} {s s1 : Shared} {cl : Nat} {flds : List Nat}
theorem cs_start {M : Model} {elt : Expr} {gens : List Comprehension} {scope : Scope} {pos : Pos} {d : Nat} {it acc : Value} {g : Comprehension} {R : Result → Shared → Prop} (hM : ∃ p w, M = model p w) (he : gens[d]? = some g) (ha : g.is_async = 0) (h0 : codeAny M A (.compLoop (.ListComp elt gens scope pos) d it acc env) R s)
    (hself : ∀ Q E, Q it s → wpAny M A (pyIter it) Q E s) : codeAny M A (.compStart (.ListComp elt gens scope pos) d it acc env) R s := by
  obtain ⟨p, w, rfl⟩ := hM
  refine codeAny_of_tree ?_
  show wpAny _ _ ((compStart (.ListComp elt gens scope pos) d it acc env).onRaise (fun x => do noteFrame x env; standAt theWindowsPlace)) _ _ s
  refine wpAny_notedAt ?_
  unfold compStart
  rw [show (clausesOf (.ListComp elt gens scope pos))[d]? = some g from he]
  simp only [Option.elim_some, ha, bne_self_eq_false, Bool.false_eq_true, if_false]
  refine wpAny_bind (wpAny_askSetting (wpAny_ite ?_))
  split
  · first
      | exact wpAny_bind (wpAny_pure (wpAny_pure (And.intro rfl h0)))
      | exact wpAny_pure (And.intro rfl h0)
  · refine wpAny_bind (wpAny_rule (wpAny_bind (wpAny_standAt (wpAny_bind (hself _ _ ?_)))))
    exact wpAny_pure (And.intro rfl h0)
noncomputable def testsOf (ifs : List Expr) (env : Env) : Sem Bool := forIn ifs true fun c r => if r = true then do let ok ← isTrue c env (eval c env); pure (ForInStep.yield ok) else pure (ForInStep.yield r)
theorem comp_turn {elt target iter : Expr} {ifs : List Expr} {gens : List Comprehension} {scope : Scope} {pos : Pos} {d : Nat} {it acc : Value} {P : PySem.Fin → Shared → Prop} {Pa Pd : Shared → Prop} (hg : gens[d]? = some ⟨target, iter, ifs, 0⟩)
    (hA : ∀ s, Pa s → P (.again (.compLoop (.ListComp elt gens scope pos) d it acc env)) s) (hD : ∀ s, Pd s → P (.done .next) s)
    (h : ∀ (N : Option Value → Shared → Prop) (T : Bool → Shared → Prop), (∀ s1, Pd s1 → N none s1) →
      (∀ v s1, wpAny (model c.prog c.w) A (letOwnedTupleGo target it v) (fun _ s2 => wpAny (model c.prog c.w) A (assign target env v) (fun _ s3 => wpAny (model c.prog c.w) A (testsOf ifs env) T NoE s3) NoE s2) NoE s1 → N (some v) s1) →
      (∀ s4, Pa s4 → T false s4) →
      (∀ s4, gens[d + 1]? = none → wpAny (model c.prog c.w) A (eval elt env) (fun x s5 => wpAny (model c.prog c.w) A (call (.builtin "list.append") [acc, x]) (fun _ s6 => Pa s6) NoE s5) NoE s4 → T true s4) →
      (∀ g' s4, gens[d + 1]? = some g' → g'.is_async = 0 → notSet g'.iter = true → wpAny (model c.prog c.w) A (eval g'.iter env) (fun x s5 => wpAny (model c.prog c.w) A (pyIter x) (fun i s6 =>
          ∀ R : Result → Shared → Prop, (∀ s', Pa s' → R (.ok .next) s') → codeAny (model c.prog c.w) A (.compStart (.ListComp elt gens scope pos) (d + 1) i acc env) R s6) NoE s5) NoE s4 → T true s4) →
      wpAny (model c.prog c.w) A (pyNext it) N NoE s) :
    wpAny (model c.prog c.w) A (compTurn (.ListComp elt gens scope pos) d it acc env) P NoE s := by
  unfold compTurn
  dsimp only
  rw [hg]
  dsimp only
  refine wpAny_bind (wpAny_standAt ?_)
  rw [if_neg (by decide)]
  refine wpAny_bind (h _ (fun ok s4 => wpAny (model c.prog c.w) A _ P NoE s4) (fun s1 h1 => wpAny_pure (hD _ h1)) (fun v s1 h1 => wpAny_bind (wpAny_mono h1 (fun _ s2 h2 => wpAny_bind (wpAny_mono h2 (fun _ s3 h3 => wpAny_bind (wpAny_mono h3 (fun ok s4 h4 => h4) fun _ _ x => x)) fun _ _ x => x)) fun _ _ x => x)) (fun s4 h4 => wpAny_pure (hA _ h4)) ?_ ?_)
  · intro s4 q h4
    rw [if_pos rfl, q]
    exact wpAny_bind (wpAny_bind (wpAny_mono h4 (fun x s5 h5 => wpAny_bind (wpAny_mono h5 (fun _ s6 h6 => wpAny_pure (wpAny_pure (hA _ h6))) fun _ _ x => x)) fun _ _ x => x))
  · intro g' s4 q ha hs h4
    rw [if_pos rfl, q]
    refine wpAny_bind (wpAny_mono h4 (fun x s5 h5 => wpAny_bind (wpAny_standAt ?_)) fun _ _ x => x)
    simp only [ha, bne_self_eq_false, Bool.false_eq_true, if_false]
    refine wpAny_bind (wpAny_of_eq (noSetIter hs x) (wpAny_bind (wpAny_holding (wpAny_mono h5 (fun i s6 h6 => wpAny_bind (wpAny_runOwn (h6 _ fun s' hr => wpAny_pure (hA _ hr)))) fun _ _ x => x))))
mutual
theorem bindT_other : ∀ (t : CT) {x : V} {l l' : Loc} {y : Nat}, bindT t x l = some l' → y ∉ varsT t → lookupL y l' = lookupL y l
  | .name z, x, l, l', y => @fun e n => by
    cases e
    simp only [varsT, List.mem_singleton] at n
    rw [lookupL_setL, if_neg n]
  | .tup ts, x, l, l', y => @fun e n => by
    cases x <;> first | (cases e; done) | skip
    replace e : bindTs ts _ l = some l' := e
    simp only [varsT] at n
    exact bindTs_other ts e n
theorem bindTs_other : ∀ (ts : List CT) {xs : List V} {l l' : Loc} {y : Nat}, bindTs ts xs l = some l' → y ∉ varsTs ts → lookupL y l' = lookupL y l
  | [], xs, l, l', y => @fun e n => by
    cases xs with
    | nil => cases e; rfl
    | cons _ _ => cases e
  | t :: ts, xs, l, l', y => @fun e n => by
    cases xs with
    | nil => cases e
    | cons x xs =>
      obtain ⟨l1, q, e⟩ := bindTs_c e
      simp only [varsTs, List.mem_append, not_or] at n
      rw [bindTs_other ts e n.2, bindT_other t q n.1]
end
noncomputable def Dom (l : Loc) (S : List Nat) : Prop := ∀ y rv, lookupL y l = some rv → y ∈ S
theorem Dom.bind {t : CT} {x : V} {l l' : Loc} {S : List Nat} (d : Dom l S) (e : bindT t x l = some l') : Dom l' (varsT t ++ S) := fun y rv q => by
  by_cases z : y ∈ varsT t
  · exact List.mem_append_left _ z
  · rw [bindT_other t e z] at q; exact List.mem_append_right _ (d y rv q)
theorem St.restrict (S : St c O X F ad hp loc sc env s) (e : ∀ y rv, lookupL y loc2 = some rv → lookupL y loc = some rv) : St c O X F ad hp loc2 sc env s := ⟨S.sr, S.en, fun y rv q => S.lo y rv (e y rv q)⟩
noncomputable def Acc (h : Heap) (O X : Addr → Prop) (D : Addr) (xs : List V) : Prop := ∃ its n, h.get? D = some (listObj its n) ∧ RepL h (U O X) xs its
theorem Rep.farZ {Z : Addr → Prop} (nF : ∀ b o, s.heap.get? b = some o → (∃ its n, o.data = .seq its n) ∨ (∃ vs, o.data = .fields vs) → ¬ F b) {h' : Heap} {O' : Addr → Prop} (hZ : ∀ b, Z b → X b) (t : Step s.heap (fun b => U O F b ∨ Z b) h' (fun b => U O' F b ∨ Z b)) (hX : ∀ b, X' b → X b ∨ s.heap.get? b = none) {x : V} {v : Value} (r : Rep s.heap (U O X) x v) : Rep h' (U O' X') x v :=
  r.mono fun b o n g d => by
    have nf := nF b o g d
    have nu : ¬ (U O F b ∨ Z b) := fun z => z.elim (fun z => z.elim (fun z => n (.inl z)) nf) fun z => n (.inr (hZ b z))
    exact ⟨t.keep b o nu g, fun z => z.elim (fun z => t.not g nu (.inl (.inl z))) fun z => (hX b z).elim (fun z => n (.inr z)) fun z => by rw [g] at z; cases z⟩
theorem Acc.stepF {D : Addr} {xs : List V} (e : EnvOK c s.heap O F sc env) (H : SR c s O X ad hp) (hD : X D) {h' : Heap} {O' : Addr → Prop} (t : Step s.heap (U O F) h' (U O' F)) (a : Acc s.heap O X D xs) : Acc h' O' X D xs := by
  obtain ⟨its, n, g, r⟩ := a
  have nf := e.notF g (.inl ⟨_, _, rfl⟩)
  exact ⟨its, n, t.keep D _ (fun z => z.elim (fun z => (H.xin D hD).1 z) nf) g, r.stepF e t⟩
theorem Acc.turn {D : Addr} {xs : List V} {h h' : Heap} {T X2 : Addr → Prop} (t : XTurn c X X2 h h' T) (nD : ¬ T D) (a : Acc h O X D xs) : Acc h' O X2 D xs := by
  obtain ⟨its, n, g, r⟩ := a
  exact ⟨its, n, t.k _ _ nD g, r.mono t.rep⟩
end Mine.Internal
namespace Mine.Internal
open PySem PySem.W PyProof.Rows
variable {c : Cx} {A : Around} {sc : Sc} {O O1 X X' F : Addr → Prop} {env : Env} {ad ad1 : AdT} {hp hp1 hp' : Hp} {loc loc' loc2 : Loc} {s s1 : Shared} {cl : Nat} {flds : List Nat}
theorem chkCl_inv {fT : Nat → Str → Bool} {K KB : CE → Expr → Bool} {g : CT × CE × List CE} {m : Comprehension} (h : chkCl fT K KB g m = true) :
    ∃ t i f, m = ⟨t, i, f, 0⟩ ∧ chkT fT g.1 t = true ∧ notSet i = true ∧ K g.2.1 i = true ∧ chkL KB g.2.2 f = true := by
  obtain ⟨t, i, f, a⟩ := m
  simp only [chkCl, Bool.and_eq_true, beq_iff_eq] at h
  exact ⟨t, i, f, by rw [h.2.2.2.2], h.1, h.2.1, h.2.2.1, h.2.2.2.1⟩
section
variable {P : Prog} {C : CallT} {r : EV} {K KB : CE → Expr → Bool}
variable (IHE : ∀ X ce e, K ce e = true → OkE c A sc X F env e (fun l h => r.E l h ce)) (IHB : ∀ X ce e, KB ce e = true → OkB c A sc X F env e (fun l h => r.B l h ce))
theorem tests_false : ∀ (ifs : List Expr) (env : Env), (forIn ifs false fun c r => if r = true then do let ok ← isTrue c env (eval c env); pure (ForInStep.yield ok) else pure (ForInStep.yield r) : Sem Bool) = pure false
  | [] => @fun env => by simp only [List.forIn_nil]
  | e :: ifs => @fun env => by
    rw [List.forIn_cons]
    simp only [Bool.false_eq_true, if_false, pure_bind]
    exact tests_false ifs env
include IHB in
theorem n_tests {cifs : List CE} {ifs : List Expr} (h : chkL KB cifs ifs = true) : ∀ {X O ad hp s} {b : Bool} {hp' : Hp} {Q : Bool → Shared → Prop}, St c O X F ad hp loc sc env s → ifsB r.B loc cifs hp = some (b, hp') → PB c X s O ad b hp' Q → wpAny (model c.prog c.w) A (testsOf ifs env) Q NoE s := by
  refine @chkL_ind _ (fun cifs ifs => ∀ {X O ad hp s} {b : Bool} {hp' : Hp} {Q : Bool → Shared → Prop}, St c O X F ad hp loc sc env s → ifsB r.B loc cifs hp = some (b, hp') → PB c X s O ad b hp' Q → wpAny (model c.prog c.w) A (testsOf ifs env) Q NoE s) _ _ h ?_ ?_
  · intro X O ad hp s b hp' Q S e k
    obtain ⟨rfl, rfl⟩ := Prod.mk.inj (Option.some.inj e)
    exact wpAny_pure (k s O ad S.sr (Step.refl _ _) (.refl _))
  · intro ce cifs e ifs h1 h2 ih X O ad hp s b hp' Q S ev k
    unfold testsOf
    rw [List.forIn_cons, if_pos rfl]
    refine obn_e ev fun x hp1 e1 ev => wpAny_bind (wpAny_bind (IHB X ce e h1 _ _ _ _ _ _ _ _ S e1 fun s1 O1 ad1 H1 t1 p1 => wpAny_pure ?_))
    induction x with
    | true => exact ih (S.step H1 t1 p1) ev (k.trans t1 p1)
    | false =>
      show wpAny _ A (forIn ifs false _) Q NoE s1
      rw [tests_false]
      exact wpAny_pure ((k.of ev) s1 O1 ad1 H1 t1 p1)
noncomputable def turnV (r : EV) (celt : CE) (t : CT) (cifs : List CE) (gs : List (CT × CE × List CE)) (l : Loc) (x : V) (h : Hp) : Option (List V × Hp) :=
  vS none (bindT t x l) fun l' => obn (ifsB r.B l' cifs h) fun ok h1 => cond ok (compGo r celt gs l' h1) (some ([], h1))
noncomputable def CompSt (c : Cx) (A : Around) (sc : Sc) (F : Addr → Prop) (env : Env) (r : EV) (K KB : CE → Expr → Bool) (celt : CE) (elt : Expr) (gens : List Comprehension) (scope : Scope) (pos : Pos) (D : Addr) (gs : List (CT × CE × List CE)) : Prop :=
    ∀ {d : Nat} {t : CT} {cifs : List CE} {target iter : Expr} {ifs : List Expr}, gens[d]? = some ⟨target, iter, ifs, 0⟩ → chkCls (okVar c.toNm sc) K KB gs (gens.drop (d + 1)) = true →
      chkT (okVar c.toNm sc) t target = true → chkL KB cifs ifs = true → ∀ {Sd : List Nat}, (varsT t).all (fun y => !Sd.contains y) = true → chkDom (varsT t ++ Sd) gs = true →
      ∀ {X O : Addr → Prop} {ad : AdT} {hp : Hp} {l : Loc} {s s2 : Shared} {items xs vs : List V} {hp' : Hp} {I : Addr} {fp : List Addr} {PP : Nat → Value → Prop} {Sx : Nat → Heap → Prop} {R : Result → Shared → Prop},
      (∀ b o, s.heap.get? b = some o → (∃ its n, o.data = .seq its n) ∨ (∃ vs, o.data = .fields vs) → ¬ F b) → St c O (fun b => X b ∨ b = I) F ad hp l sc env s2 → X D → ¬ X I → c.s₀.heap.get? I = none → Acc s2.heap O (fun b => X b ∨ b = I) D xs → Iter c A (U O X) items I s.heap fp PP Sx →
      Sx 0 s2.heap → Step s.heap (fun b => U O F b ∨ b = D) s2.heap (fun b => U O F b ∨ b = D) → Dom l Sd →
      forItems (turnV r celt t cifs gs l) items hp = some (vs, hp') → xs.length + vs.length ≤ 4096 →
      (∀ s' O' ad', St c O' X F ad' hp' l sc env s' → Step s.heap (fun b => U O F b ∨ b = D) s'.heap (fun b => U O' F b ∨ b = D) → Prefix ad ad' → Acc s'.heap O' X D (xs ++ vs) → R (.ok .next) s') →
      codeAny (model c.prog c.w) A (.compLoop (.ListComp elt gens scope pos) d (.ref I) (.ref D) env) R s2
inductive CInv (c : Cx) (sc : Sc) (X X2 F : Addr → Prop) (env : Env) (items : List V) (G : List V → Hp → Option (List V × Hp)) (vs : List V) (hp' : Hp) (xs : List V) (D : Addr) (Sx : Nat → Heap → Prop) (l : Loc) (s : Shared) (O : Addr → Prop) (ad : AdT) (n : Nat) (s' : Shared) : Prop
  | mk (i : Nat) (O1 : Addr → Prop) (ad1 : AdT) (hp1 : Hp) (ys zs : List V) (hn : n + i = items.length) (e : G (items.drop i) hp1 = some (zs, hp')) (hv : vs = ys ++ zs)
      (S : St c O1 X2 F ad1 hp1 l sc env s') (st : Sx i s'.heap) (t : Step s.heap (fun b => U O F b ∨ b = D) s'.heap (fun b => U O1 F b ∨ b = D)) (p : Prefix ad ad1) (ac : Acc s'.heap O1 X2 D (xs ++ ys))
include IHE IHB in
theorem comp_step (ok : c.OK) (hh : A.handled = none) {celt : CE} {elt : Expr} {gens : List Comprehension} {scope : Scope} {pos : Pos} (hE : K celt elt = true) {D : Addr} (hDn : c.s₀.heap.get? D = none) (gs : List (CT × CE × List CE))
    (ih : ∀ g gs', gs = g :: gs' → CompSt c A sc F env r K KB celt elt gens scope pos D gs') : CompSt c A sc F env r K KB celt elt gens scope pos D gs := by
  intro d t cifs target iter ifs hg hrest hT hifs Sd hdis hdom X O ad hp l s s2 items xs vs hp' I fp PP Sx R nF S2 hD nXI nI hacc2 it st0 tt0 dl ev hlen k
  have hX0 : ∀ b, (fun b => X b ∨ b = I) b → X b ∨ s.heap.get? b = none := fun b q => q.elim .inl fun e => .inr (e ▸ it.new)
  have nDI : D ≠ I := fun e => nXI (e ▸ hD)
  refine codeAny_loop rfl (CInv c sc X (fun b => X b ∨ b = I) F env items (forItems (turnV r celt t cifs gs l)) vs hp' xs D Sx l s O ad) ?_ items.length ⟨0, O, ad, hp, [], vs, rfl, ev, rfl, S2, st0, tt0, .refl _, by simp only [List.append_nil]; exact hacc2⟩
  intro n s' hI
  obtain ⟨i, O1, ad1, hp1, ys, zs, hn, e, hvs, S3, st, tt, p, ac⟩ := hI
  obtain ⟨oi, ni, vi, hoi, hci, hni, hdi⟩ := it.data i _ st
  show wpAny _ A ((compTurn (.ListComp elt gens scope pos) d (.ref I) (.ref D) env).onRaise (fun x => do noteFrame x env; theTreesLotGoes x)) _ _ s'
  obtain ⟨Pa, hPa⟩ : ∃ Pa : Shared → Prop, ∀ s1, Pa s1 ↔ ∃ m, m < n ∧ CInv c sc X (fun b => X b ∨ b = I) F env items (forItems (turnV r celt t cifs gs l)) vs hp' xs D Sx l s O ad m s1 := ⟨_, fun _ => Iff.rfl⟩
  refine wpAny_noted (noE (comp_turn (Pa := Pa) (Pd := R (.ok .next)) hg (fun _ q => ⟨rfl, (hPa _).mp q⟩) (fun _ q => q) ?_))
  intro N T kN kS kF kT kM
  by_cases hlt : i < items.length
  · refine it.W.item i s' _ _ hlt st fun v h' tk hP st' hk => kS _ _ ?_
    refine hide fun G hG => ?_
    obtain ⟨oi', ni', vi', hoi', hci', hni', hdi'⟩ := it.data (i + 1) _ st'
    have xt : XTurn c (fun b => X b ∨ b = I) (fun b => X b ∨ b = I) s'.heap h' (fun b => b = I) := .one (.inr rfl) (fun _ q => q) hk (fun _ => ⟨_, hoi'⟩) ⟨oi, hoi, .inr ⟨_, hdi⟩⟩ nI
    have S4 := S3.turnX (tk := tk) xt
    have t4 : Step s.heap (fun b => U O F b ∨ b = D) h' (fun b => U O1 F b ∨ b = D) := tt.turnNew (T := fun b => b = I) xt.k fun b z => z ▸ it.new
    have ac4 : Acc h' O1 (fun b => X b ∨ b = I) D (xs ++ ys) := ac.turn xt nDI
    obtain ⟨x, hx, rx⟩ := it.rep i v hP hlt
    refine hG ?_
    refine own_go hoi' hci' hni' hdi' ?_
    rw [List.drop_eq_getElem_cons hlt, Option.some.inj ((List.getElem?_eq_getElem hlt).symm.trans hx)] at e
    refine obn_e e fun av hp2 e2 e => obn_e e fun bv hp3 e3 e => vS_e e2 fun l1 b1 e2 => obn_e e2 fun x4 hp4 e4 e2 => ?_
    obtain ⟨rfl, rfl⟩ : zs = av ++ bv ∧ hp' = hp3 := by obtain ⟨rfl, rfl⟩ := Prod.mk.inj (Option.some.inj e); exact ⟨rfl, rfl⟩
    have fin : ∀ (s6 : Shared) O6 ad6, St c O6 (fun b => X b ∨ b = I) F ad6 hp2 l1 sc env s6 → Step h' (fun b => U O1 F b ∨ b = D) s6.heap (fun b => U O6 F b ∨ b = D) → Prefix ad1 ad6 → Acc s6.heap O6 (fun b => X b ∨ b = I) D (xs ++ ys ++ av) → Pa s6 := fun s6 O6 ad6 S6 t6 p6 a6 => by
      refine (hPa _).mpr ⟨n - 1, by lia, i + 1, O6, ad6, hp2, ys ++ av, bv, by lia, e3, by simp only [hvs, List.append_assoc], S6.restrict fun y rv q => ?_, it.W.frame _ _ _ st' (fun b hb o ho => ?_), t4.trans t6, p.trans p6, by rw [← List.append_assoc]; exact a6⟩
      · rw [bindT_other t b1 fun z => by
          have := List.all_eq_true.mp hdis y z
          simp at this
          exact this (dl y rv q)]; exact q
      · rcases it.own b hb with rfl | ⟨ny, ob, hob, its, m, hd⟩
        · exact t6.keep _ _ (fun z => z.elim (fun z => z.elim (S4.sr.xin _ (.inr rfl)).1 (S4.en.notF hoi' (.inr ⟨_, hdi'⟩))) fun z => nDI z.symm) ho
        · exact t6.keep _ _ (t4.not hob fun z => z.elim (fun z => z.elim (fun z => ny (.inl z)) (nF _ _ hob (.inl ⟨_, _, hd⟩))) fun z => ny (.inr (z ▸ hD))) ho
    refine t_bind ok hh t hT b1 S4 (Rep.farZ (Z := fun b => b = D) nF (fun b z => z ▸ hD) t4 hX0 rx) fun s5 S5 t5 => n_tests IHB hifs S5 e4 fun s6 O6 ad6 H6 t6 p6 => ?_
    have S6 := S5.step H6 t6 p6
    have ac6 := (ac4.stepF S4.en S4.sr (.inl hD) t5).stepF S5.en S5.sr (.inl hD) (t6.av F)
    have t56 : Step h' (fun b => U O1 F b ∨ b = D) s6.heap (fun b => U O6 F b ∨ b = D) := (t5.trans (t6.av F)).av _
    induction x4 with
    | false => obtain ⟨rfl, rfl⟩ : av = [] ∧ hp4 = hp2 := by obtain ⟨rfl, rfl⟩ := Prod.mk.inj (Option.some.inj e2); exact ⟨rfl, rfl⟩
               exact kF _ (fin s6 O6 ad6 S6 t56 p6 (by simp only [List.append_nil]; exact ac6))
    | true =>
    induction gs with
    | nil =>
      refine kT _ (by
        induction z : gens.drop (d + 1) with
        | nil => rw [← List.head?_drop, z]; rfl
        | cons _ _ => rw [z] at hrest; injection hrest) ?_
      refine obn_e e2 fun v hp5 e5 e2 => IHE _ celt elt hE _ _ _ _ _ _ _ _ S6 e5 fun v7 s7 O7 ad7 H7 t7 p7 r7 => rVal_e e2 r7 fun av0 _ r7 e2 => ?_
      refine hide fun G hG => ?_
      obtain ⟨rfl, rfl⟩ : av = [av0] ∧ hp5 = hp2 := by obtain ⟨rfl, rfl⟩ := Prod.mk.inj (Option.some.inj e2); exact ⟨rfl, rfl⟩
      have S7 := S6.step H7 t7 p7
      obtain ⟨its, m, gD, rD⟩ := ac6.stepF S6.en S6.sr (.inl hD) (t7.av F)
      have hsz : its.length < 4096 := by
        rw [rD.length]
        rw [hvs] at hlen
        simp at hlen ⊢
        lia
      refine hG ?_
      refine wpAny_list_append_plain ⟨m, gD⟩ (fun h8 ⟨m8, g8⟩ hs8 => ?_) (by rw [List.size_toArray]; exact line_4096 (Nat.le_of_lt hsz))
      have xt8 : XTurn c (fun b => X b ∨ b = I) (fun b => X b ∨ b = I) s7.heap h8 (fun b => b = D) :=
        .one (.inl hD) (fun _ q => q) (fun b x nb e => hs8.extBut b x (fun z => nb (List.mem_singleton.mpr z)) e) (fun _ => ⟨_, g8⟩) ⟨_, gD, .inl ⟨_, _, rfl⟩⟩ hDn
      exact fin { s7 with heap := h8 } O7 ad7 (S7.turnX (tk := s7.toks) xt8) ((t56.trans ((t7.av F).av _)).trans ⟨fun b o nb e => hs8.extBut b o (fun z => nb (.inr z)) e, fun b q => .inl q⟩) (p6.trans p7) ⟨its ++ [v7], m8, by rw [g8]; simp, (rD.snoc r7).mono xt8.rep⟩
    | cons g2 gs' =>
      induction z : gens.drop (d + 1) with
      | nil => rw [z] at hrest; injection hrest
      | cons cm cms =>
        rw [z] at hrest
        rw [show ∀ T K KB, chkCls T K KB (g2 :: gs') (cm :: cms) = (chkCl T K KB g2 cm && chkCls T K KB gs' cms) from fun _ _ _ => rfl, Bool.and_eq_true] at hrest
        refine hide fun G hG => ?_
        obtain ⟨hc2, hrest2⟩ := hrest
        obtain ⟨target2, iter2, ifs2, hcm, hT2, hs2, hK2, hifs2⟩ := chkCl_inv hc2
        subst hcm
        simp only [chkDom, Bool.and_eq_true] at hdom
        have hg2 : gens[d + 1]? = some ⟨target2, iter2, ifs2, 0⟩ := by rw [← List.head?_drop, z]; rfl
        have hdrop : gens.drop (d + 1 + 1) = cms := by rw [← List.drop_drop, z]; rfl
        refine hG ?_
        refine kM _ _ hg2 rfl hs2 (obn_e e2 fun iv hp5 e5 e2 => IHE _ g2.2.1 iter2 hK2 _ _ _ _ _ _ _ _ S6 e5 fun v7 s7 O7 ad7 H7 t7 p7 r7 => rVal_e e2 r7 fun iv _ r7 e2 => vS_e e2 fun items2 e6 e2 => ?_)
        have S7 := S6.step H7 t7 p7
        have ac7 := ac6.stepF S6.en S6.sr (.inl hD) (t7.av F)
        refine p_iter hh r7 e6 fun o2 fp2 PP2 Sx2 it2 st2 R2 kR2 => cs_start ⟨_, _, rfl⟩ hg2 rfl ?_ (fun Q E q => it2.W.self 0 _ Q E st2 q)
        have kp2 : Kp s7.heap (s7.heap.push o2) := Kp.push _ _
        have hX2 : ∀ b, (fun b => (X b ∨ b = I) ∨ b = s7.heap.objs.size) b → (X b ∨ b = I) ∨ s7.heap.get? b = none := fun b q => q.elim .inl fun e => .inr (e ▸ it2.new)
        have S8 := S7.reX (X' := fun b => (X b ∨ b = I) ∨ b = s7.heap.objs.size) (tk := s7.toks) kp2 hX2 fun b q => q.elim (fun q => by obtain ⟨o, e⟩ := S7.xlive b q; exact ⟨o, kp2 _ _ e⟩) fun e => by
          obtain ⟨o', _, _, ho, _⟩ := it2.data 0 _ st2
          exact ⟨o', e ▸ ho⟩
        have ac8 : Acc (s7.heap.push o2) O7 (fun b => (X b ∨ b = I) ∨ b = s7.heap.objs.size) D (xs ++ ys) := by
          obtain ⟨its, n, g, rl⟩ := ac7
          exact ⟨its, n, kp2 _ _ g, rl.mono fun b x n e _ => ⟨kp2 b x e, fun z => z.elim (fun z => n (.inl z)) fun z => (hX2 b z).elim (fun z => n (.inr z)) fun z => by rw [e] at z; injection z⟩⟩
        refine ih g2 gs' rfl hg2 (hdrop ▸ hrest2) hT2 hifs2 hdom.1 hdom.2 (fun b o g d => S7.en.notF g d) S8 (.inl hD) (fun q => by obtain ⟨_, e⟩ := S7.xlive _ q; rw [it2.new] at e; injection e) (S7.old it2.new) ac8 it2 st2 (Step.stay kp2) (dl.bind b1) e2 ?_ fun s8 O8 ad8 S8 t8 p8 ac8 => kR2 _ (fin s8 O8 ad8 S8 ((t56.trans ((t7.av F).av _)).trans t8) ((p6.trans p7).trans p8) ac8)
        rw [hvs] at hlen
        simp at hlen ⊢
        lia
  · have hi : i = items.length := by lia
    subst hi
    rw [List.drop_length] at e
    refine hide fun G hG => ?_
    obtain ⟨rfl, rfl⟩ := Prod.mk.inj (Option.some.inj e)
    refine hG ?_
    refine it.W.done s' _ _ st fun h' tk hk => kN _ ?_
    have xt : XTurn c (fun b => X b ∨ b = I) X s'.heap h' (fun b => b = I) := .one (.inr rfl) (fun _ q => .inl q) hk (fun q => absurd q nXI) ⟨oi, hoi, .inr ⟨_, hdi⟩⟩ nI
    exact k _ O1 ad1 (S3.turnX (tk := tk) xt) (tt.turnNew (T := fun b => b = I) xt.k fun b z => z ▸ it.new) p (by simp only [hvs, List.append_nil]; exact ac.turn xt nDI)
include IHE IHB in
theorem comp_loop (ok : c.OK) (hh : A.handled = none) {celt : CE} {elt : Expr} {gens : List Comprehension} {scope : Scope} {pos : Pos} (hE : K celt elt = true) {D : Addr} (hDn : c.s₀.heap.get? D = none) :
    ∀ gs : List (CT × CE × List CE), CompSt c A sc F env r K KB celt elt gens scope pos D gs := by
  intro gs
  induction gs with
  | nil => exact comp_step IHE IHB ok hh hE hDn [] fun _ _ e => by injection e
  | cons g gs ih => exact comp_step IHE IHB ok hh hE hDn (g :: gs) fun _ _ e => by rcases e with ⟨⟩; exact ih
end
end Mine.Internal
namespace Mine.Internal
open PySem PySem.W PyProof.Rows
variable {c : Cx} {A : Around} {sc : Sc} {O O1 X X' F : Addr → Prop} {env : Env} {ad ad1 : AdT} {hp hp1 hp' : Hp} {loc loc' loc2 : Loc} {s s1 : Shared} {cl : Nat} {flds : List Nat}
noncomputable def closL (env : Env) : Sc → List (Str × Addr) → List (Str × Addr)
  | [], acc => acc
  | (n, k) :: r, acc => if k == .free then closL env r ((n, (env.cells.lookup n).getD 0) :: acc) else closL env r acc
theorem closL_c {env : Env} {p : Str × NameKind} {r : Sc} {acc : List (Str × Addr)} : closL env (p :: r) acc = if (p.2 == .free) = true then closL env r ((p.1, (env.cells.lookup p.1).getD 0) :: acc) else closL env r acc := rfl
theorem closL_look {env : Env} {n : Str} {a : Addr} {names : Sc} : ∀ {acc : List (Str × Addr)}, (closL env names acc).lookup n = some a → acc.lookup n = some a ∨ ((n, NameKind.free) ∈ names ∧ a = (env.cells.lookup n).getD 0) := by
  induction names with
  | nil => exact fun h => .inl h
  | cons p r ih =>
    intro acc h
    rw [closL_c] at h
    by_cases hk : (p.2 == .free) = true
    · rw [if_pos hk] at h
      refine (ih h).elim (fun q => ?_) fun q => .inr ⟨.tail _ q.1, q.2⟩
      rw [List.lookup_cons] at q
      induction e : n == p.1 with
      | false => rw [e] at q; exact .inl q
      | true => rw [e] at q; rw [← beq_iff_eq.mp hk, beq_iff_eq.mp e]; exact .inr ⟨.head _, (Option.some.inj q).symm⟩
    · rw [if_neg hk] at h
      exact (ih h).imp id fun q => ⟨.tail _ q.1, q.2⟩
theorem closL_has {env : Env} {n : Str} {names : Sc} : ∀ {acc : List (Str × Addr)}, ((n, NameKind.free) ∈ names ∨ (acc.lookup n).isSome = true) → ((closL env names acc).lookup n).isSome = true := by
  induction names with
  | nil => exact fun h => h.elim (fun z => nM z) id
  | cons p r ih =>
    intro acc h
    rw [closL_c]
    by_cases hk : (p.2 == .free) = true
    · rw [if_pos hk]
      refine ih (h.elim (fun h => (List.mem_cons.mp h).elim (fun e => .inr ?_) .inl) fun h => .inr ?_)
      · subst e; rw [List.lookup_cons, beq_self_eq_true]; rfl
      · rw [List.lookup_cons]
        rcases n == p.1 with _ | _
        · exact h
        · rfl
    · rw [if_neg hk]
      exact ih (h.imp (fun h => (List.mem_cons.mp h).elim (fun e => absurd (beq_iff_eq.mpr (congrArg Prod.snd e).symm) hk) id) id)
theorem closureFor_eq (scope : Scope) (env : Env) (h : ∀ n, (n, NameKind.free) ∈ scope.names → ∃ a, env.cells.lookup n = some a) : closureFor scope env = pure (closL env scope.names []) := by
  have key : ∀ (names : Sc) (acc : List (Str × Addr)), (∀ n, (n, NameKind.free) ∈ names → ∃ a, env.cells.lookup n = some a) →
      (forIn names acc fun x cs => match x with | (name, kind) => if (kind == .free) = true then do let a ← cellOf env name; pure (ForInStep.yield ((name, a) :: cs)) else pure (ForInStep.yield cs) : Sem (List (Str × Addr))) = pure (closL env names acc) := by
    intro names
    induction names with
    | nil => intro acc _; rw [List.forIn_nil]; rfl
    | cons x names ih =>
      intro acc h
      obtain ⟨n, k⟩ := x
      rw [List.forIn_cons]
      unfold closL
      by_cases hk : (k == .free) = true
      · obtain ⟨a, ha⟩ := h n (by rw [beq_iff_eq.mp hk]; exact .head _)
        simp only [hk, if_true]
        unfold cellOf
        rw [ha]
        simp only [pure_bind, Option.getD_some]
        exact ih _ fun m hm => h m (.tail _ hm)
      · simp only [hk, if_false, Bool.false_eq_true, pure_bind]
        exact ih _ fun m hm => h m (.tail _ hm)
  unfold closureFor
  have := key scope.names [] h
  first
    | (rw [this, pure_bind])
    | (exact this)
    | (simp only [this, pure_bind])
theorem new_frame {scope : Scope} {globals : Addr} {closure : List (Str × Addr)} {binds : List (Str × Value)} {qual : Str} {func : Option Addr} {code : Value} {around : Option Env} {builtins : Addr} {Q : Env → Shared → Prop} {E : Value → Shared → Prop}
    (h : wpAny (model c.prog c.w) A (forIn binds ⟨⟩ fun (x : Str × Value) (_ : PUnit) => do storeName (newEnv scope s.heap.objs.size globals (cellsFrom (s.heap.objs.size + 1) scope.names closure) qual func code around builtins) x.1 x.2; pure (.yield ⟨⟩))
      (fun _ s' => Q (newEnv scope s.heap.objs.size globals (cellsFrom (s.heap.objs.size + 1) scope.names closure) qual func code around builtins) s') E
      { s with heap := pushCells (s.heap.push { cls := .type (if around.isSome then "dict" else "frame"), data := .dict #[] }) scope.names }) :
    wpAny (model c.prog c.w) A (newFunctionEnv scope globals closure binds qual func code around builtins) Q E s := by
  unfold newFunctionEnv
  refine wpAny_bind (wpAny_alloc ?_)
  refine wpAny_bind (wpAny_layCells _ (fun name kind cells => by cases hkc : kind == NameKind.cell <;> simp [hkc]) _ _ _ _ ?_)
  rw [show ({ s with heap := s.heap.push { cls := .type (if around.isSome then "dict" else "frame"), data := .dict #[] } } : Shared).heap.objs.size = s.heap.objs.size + 1 from Heap.size_push ..]
  cases around with
  | none => exact wpAny_bind (wpAny_mono h (fun _ s' h' => wpAny_pure h') fun _ _ x => x)
  | some outer => exact wpAny_bind (wpAny_mono h (fun _ s' h' => wpAny_pure h') fun _ _ x => x)
theorem relabel_kind {scope : Scope} {env : Env} : ∀ {names : Sc} {n : Str}, ((names.map fun (n, k) => if (k == NameKind.free && env.scope.kind == .function && env.kindOf n == some .cell) then (n, NameKind.cell) else (n, k)).lookup n) =
    (names.lookup n).map fun k => if (k == NameKind.free && env.scope.kind == .function && env.kindOf n == some .cell) then NameKind.cell else k
  | [], n => rfl
  | (x, k) :: r, n => by
    have ih := relabel_kind (scope := scope) (env := env) (names := r) (n := n)
    rw [List.map_cons, List.lookup_cons]
    by_cases h : (k == NameKind.free && env.scope.kind == .function && env.kindOf x == some .cell) = true
    · simp only [h, if_true]
      rw [List.lookup_cons]
      cases e : n == x with
      | true => have := beq_iff_eq.mp e; subst this; simp only [Option.map_some]; rw [if_pos h]
      | false => exact ih
    · simp only [h, if_false, Bool.false_eq_true]
      rw [List.lookup_cons]
      cases e : n == x with
      | true =>
        have := beq_iff_eq.mp e; subst this
        simp only [Option.map_some, h, if_false, Bool.false_eq_true]
      | false => exact ih
end Mine.Internal
namespace Mine.Internal
open PySem PySem.W PyProof.Rows
variable {c : Cx} {A : Around} {sc : Sc} {O O1 X X' F : Addr → Prop} {env : Env} {ad ad1 : AdT} {hp hp1 hp' : Hp} {loc loc' loc2 : Loc} {s s1 : Shared} {cl : Nat} {flds : List Nat}
theorem SR.adopt {D : Addr} {vs : List V} {items : List Value} {n : Nat} (H : SR c s O X' ad hp) (le : ∀ b, X b → X' b) (hD : X' D) (nD : ¬ X D) (hDn : c.s₀.heap.get? D = none) (g : s.heap.get? D = some (listObj items n)) (hl : vs.length ≤ 4096) (r : RepL s.heap (U O X') vs items) :
    SR c s (fun b => O b ∨ b = D) X (ad ++ [(D, D)]) (hp ++ [.mlst vs]) := by
  have nO : ¬ O D := (H.xin D hD).1
  have mono : ∀ b x, ¬ U O X' b → s.heap.get? b = some x → (∃ its n, x.data = .seq its n) ∨ (∃ vs, x.data = .fields vs) → s.heap.get? b = some x ∧ ¬ U (fun b => O b ∨ b = D) X b := fun b x nb e _ =>
    ⟨e, fun z => z.elim (fun z => z.elim (fun z => nb (.inl z)) fun z => nb (.inr (z ▸ hD))) fun z => nb (.inr (le b z))⟩
  have old : ∀ (i : Nat) (o : HObj) (a w : Addr), hp[i]? = some o → ad[i]? = some (a, w) → ObjRel c s.heap (fun b => O b ∨ b = D) X (ad ++ [(D, D)]) o a w ∧ w ≠ D := fun i o a w ei ea => by
    have R := H.hr.obj i o a w ei ea
    refine ⟨R.turn mono (fun _ x e => e) .inl (fun q ha hg => ⟨hg, fun z => z.elim ha fun z => ?_⟩) (.snoc _ _), fun z => R.ww.elim (fun q => nO (z ▸ q)) fun q => q (.inr (z ▸ hD))⟩
    rw [z, g] at hg; have hg := congrArg Obj.data (Option.some.inj hg); injection hg
  refine ⟨H.same, H.keep, fun b z => ?_, fun b z => ?_, fun b z => ⟨fun y => ?_, (H.xin b (le b z)).2⟩, ⟨by simp [H.hr.len], ?_, fun j p a' w' ej ea => ?_⟩⟩
  · rcases z with z | z
    · exact H.own b z
    · exact z ▸ hDn
  · rcases z with z | z
    · exact H.oin b z
    · exact z ▸ ⟨_, g⟩
  · rcases y with y | y
    · exact (H.xin b (le b z)).1 y
    · exact nD (y ▸ z)
  · rw [List.map_append, List.nodup_append]
    refine ⟨H.hr.nodup, by simp, fun x hx y hy => ?_⟩
    simp at hy
    rcases hy with ⟨⟩
    obtain ⟨⟨a', w'⟩, hm, rfl⟩ := List.mem_map.mp hx
    obtain ⟨j, hj, e⟩ := List.getElem_of_mem hm
    have hj' : j < hp.length := by rw [← H.hr.len]; exact hj
    exact (old j hp[j] a' w' (by simp [List.getElem?_eq_getElem hj']) (by simp only [List.getElem?_eq_getElem hj, e])).2
  · have hlen : ad.length = hp.length := H.hr.len
    by_cases q : j < hp.length
    · rw [List.getElem?_append_left q] at ej
      rw [List.getElem?_append_left (by rw [hlen]; exact q)] at ea
      exact (old j p a' w' ej ea).1
    · have hj : j = hp.length := by
        have : j < (hp ++ [HObj.mlst vs]).length := (List.getElem?_eq_some_iff.mp ej).1
        simp at this; lia
      subst hj
      simp at ej
      rw [← hlen] at ea
      simp at ea
      obtain ⟨rfl, rfl⟩ := ea
      subst ej
      exact ⟨rfl, .inr rfl, hl, items, n, g, r.mono mono⟩
theorem SR.turnD {L : Addr} {h' : Heap} {tk : Nat} (H : SR c s O X ad hp) (hd : ∃ o es n, s.heap.get? L = some o ∧ o.data = .dict es n) (nO : ¬ O L) (n0 : c.s₀.heap.get? L = none) (nX : ¬ X L) (k : ∀ b x, b ≠ L → s.heap.get? b = some x → h'.get? b = some x) :
    SR c { s with heap := h', toks := tk } O X ad hp := by
  refine hide fun G hG => ?_
  obtain ⟨⟨h, tk0, rfl⟩, hk, ho, hi, hx, hr⟩ := H
  obtain ⟨oL, esL, nL, hL, hdL⟩ := hd
  have rep : ∀ b x, ¬ U O X b → h.get? b = some x → (∃ its n, x.data = .seq its n) ∨ (∃ vs, x.data = .fields vs) → h'.get? b = some x ∧ ¬ U O X b := fun b x n e d =>
    ⟨k b x (fun z => kind_ne (.inl ⟨_, _, hdL⟩) (Option.some.inj ((z ▸ e).symm.trans hL) ▸ d)) e, n⟩
  have nw : ∀ {w}, O w → w ≠ L := fun q z => nO (z ▸ q)
  refine hG ?_
  refine ⟨⟨h', tk, rfl⟩, fun b o q => k b o (fun z => by rw [z, n0] at q; injection q) (hk b o q), ho, fun b q => let ⟨o, e⟩ := hi b q; ⟨o, k b o (nw q) e⟩, fun b q => ⟨(hx b q).1, let ⟨o, e⟩ := (hx b q).2; ⟨o, k b o (fun z => nX (z ▸ q)) e⟩⟩, ⟨hr.len, hr.nodup, fun i o a w ei ea => ?_⟩⟩
  refine (hr.obj i o a w ei ea).turn rep (fun hw x e => k _ x (nw hw) e) id (fun q ha hg => ⟨k _ _ (fun z => ?_) hg, ha⟩) (.refl _)
  rw [z, show h.get? L = _ from hL] at hg; obtain rfl := Option.some.inj hg; injection hdL
theorem St.turnD {L : Addr} {h' : Heap} {tk : Nat} (S : St c O X F ad hp loc sc env s) (hd : ∃ o es n, s.heap.get? L = some o ∧ o.data = .dict es n) (nO : ¬ O L) (n0 : c.s₀.heap.get? L = none) (nX : ¬ X L) (nF : ¬ F L) (k : ∀ b x, b ≠ L → s.heap.get? b = some x → h'.get? b = some x) :
    St c O X F ad hp loc sc env { s with heap := h', toks := tk } := by
  have kns : ∀ m, s.heap.Ns env.locals m → h'.Ns env.locals m := fun m => ns_k fun o _ => k _ o fun z => nF (z ▸ S.en.fL)
  have kc : ∀ {a v}, s.heap.IsCell a v → h'.IsCell a v := fun q => by
    obtain ⟨o, ho, hc⟩ := q
    refine ⟨o, k _ _ (fun z => ?_) ho, hc⟩
    obtain ⟨oL, esL, nL, hL, hdL⟩ := hd
    rw [z, hL] at ho; obtain rfl := Option.some.inj ho; rw [hdL] at hc; injection hc
  have rep : ∀ b x, ¬ U O X b → s.heap.get? b = some x → (∃ its n, x.data = .seq its n) ∨ (∃ vs, x.data = .fields vs) → h'.get? b = some x ∧ ¬ U O X b := fun b x n e d =>
    ⟨k b x (fun z => hd.elim fun oL q => q.elim fun es q => q.elim fun nL q => kind_ne (.inl ⟨es, nL, q.2⟩) (Option.some.inj ((z ▸ e).symm.trans q.1) ▸ d)) e, n⟩
  exact ⟨S.sr.turnD hd nO n0 nX k, S.en.turn (S.en.ns.imp kns) (fun a v q n => ⟨v, kc q, n⟩) S.en.fO (fun b f => (S.en.fdata b f).imp fun o q => ⟨k _ _ (fun z => nF (z ▸ f)) q.1, q.2⟩), S.lo.turn (fun r => r.mono rep (.refl _)) fun r => r.turn kns fun a _ _ => kc⟩
theorem Iter.reY {Y Y' : Addr → Prop} {items : List V} {I : Addr} {h₀ : Heap} {fp : List Addr} {PP : Nat → Value → Prop} {Sx : Nat → Heap → Prop} (it : Iter c A Y items I h₀ fp PP Sx) (hY : ∀ b, Y' b → Y b ∨ h₀.get? b = none) : Iter c A Y' items I h₀ fp PP Sx :=
  ⟨it.W, it.new, fun b hb => (it.own b hb).imp id fun zz => by obtain ⟨n, o, e, d⟩ := zz; exact ⟨fun z => (hY b z).elim n (fun z => by rw [e] at z; injection z), o, e, d⟩, it.data, fun i v hP hi => by obtain ⟨x, hx, r⟩ := it.rep i v hP hi; exact     ⟨x, hx, r.mono fun b o n e _ => ⟨e, fun z => (hY b z).elim n fun z => by rw [e] at z; injection z⟩⟩⟩
theorem band {a b : Bool} (h : (a && b) = true) : a = true ∧ b = true := (Bool.and_eq_true a b).mp h
noncomputable def cEnv (scope : Scope) (env : Env) (n : Addr) : Env := { newEnv scope n env.globals (cellsFrom (n + 1) scope.names (closL env scope.names [])) env.qual none .none (some env) builtinsNs with scope := relabel scope env }
theorem lookup_mem_of {β : Type} {l : List (Str × β)} {x : Str} {k : β} : l.lookup x = some k → (x, k) ∈ l := by
  induction l with
  | nil => exact fun h => nS h
  | cons p r ih =>
    intro h
    rw [List.lookup_cons] at h
    induction e : x == p.1 with
    | true => rw [e] at h; obtain rfl := Option.some.inj h; rw [beq_iff_eq.mp e]; exact .head _
    | false => rw [e] at h; exact .tail _ (ih h)
theorem lookup_loc0 (loc : Loc) {y : Nat} {rv : RV} (fv : List Nat) : lookupL y (loc0 fv loc) = some rv → y ∈ fv ∧ lookupL y loc = some rv := by
  induction fv with
  | nil => exact fun h => nS h
  | cons x fv ih =>
    intro h
    have ih := fun h => (ih h).imp (List.mem_cons_of_mem x) id
    unfold loc0 at h ih
    rw [List.filterMap_cons] at h
    induction q : lookupL x loc with
    | none => rw [q] at h; exact ih h
    | some v =>
      rw [q] at h
      by_cases e : y = x
      · exact ⟨e ▸ .head _, e.symm ▸ q.trans ((show some v = lookupL y ((x, v) :: _) from (if_pos e).symm).trans h)⟩
      · exact ih ((show lookupL y ((x, v) :: _) = _ from if_neg e).symm.trans h)
section
variable {P : Prog} {C : CallT} {r : EV} {K KB : Sc → CE → Expr → Bool}
variable (IHE : ∀ sc X F env ce e, K sc ce e = true → OkE c A sc X F env e (fun l h => r.E l h ce)) (IHB : ∀ sc X F env ce e, KB sc ce e = true → OkB c A sc X F env e (fun l h => r.B l h ce))
include IHE IHB in
theorem comp_core (ok : c.OK) (hh : A.handled = none) {mt : Bool} {fv : List Nat} {celt : CE} {cgens : List (CT × CE × List CE)} {elt : Expr} {gens : List Comprehension} {scope : Scope} {pos : Pos} (h : chkComp c.toNm sc K KB fv celt cgens elt gens scope = true)
    {use : Option (Value → Sem Unit)} {Q : Value → Shared → Prop} {rv : RV} (S : St c O X F ad hp loc sc env s) (ev : stepE P C r loc hp (.comp mt fv celt cgens) = some (rv, hp'))
    (k : ∀ D L s' O' ad', St c O' X F ad' hp' loc sc env s' → Step s.heap O s'.heap O' → Prefix ad ad' → RepRV s'.heap (U O' X) ad' rv (.ref D) → (∃ m, s'.heap.Ns L m) → ¬ O' L → c.s₀.heap.get? L = none → ¬ X L → ¬ F L → (¬ O L → s.heap.get? L = none) →
      compPost (model c.prog c.w) A NoE use Q (.ref D) L (.ok .next) s') :
    wpAny (model c.prog c.w) A (comprehension (.ListComp elt gens scope pos) scope env (firstIterPos gens pos) (newList []) (firstAsync gens) (firstIter gens env) use) Q NoE s := by
  obtain ⟨h, hm⟩ := band h
  obtain ⟨h, hdm⟩ := band h
  obtain ⟨h, hfv⟩ := band h
  obtain ⟨h, hfr⟩ := band h
  obtain ⟨hkind, nd⟩ := band h
  have nd := of_decide_eq_true nd
  have hkind := beq_iff_eq.mp hkind
  rcases cgens with _ | ⟨g, cgs⟩
  · exact nB hm
  rcases gens with _ | ⟨m, gs⟩
  · exact nB hm
  simp only [Bool.and_eq_true] at hm
  refine hide fun G hG => ?_
  obtain ⟨hK, hcl, hcls, hE⟩ := hm
  obtain ⟨target, iter, ifs, rfl, hT, hs, -, hifs⟩ := chkCl_inv hcl
  refine hG ?_
  refine obn_e ev fun iv hp1 e1 ev => ?_
  have hfree : ∀ n, (n, NameKind.free) ∈ scope.names → env.kindOf n = some .cell ∨ env.kindOf n = some .free := fun n hn => by
    have := List.all_eq_true.mp hfr _ hn
    simp at this
    rcases this with q | q
    · rcases S.en.kinds _ _ q with z | ⟨z, _⟩
      · exact .inl z
      · injection z
    · rcases S.en.kinds _ _ q with z | ⟨_, z⟩
      · exact .inr z
      · exact .inl z
  have hclos := closureFor_eq scope env fun n hn => by obtain ⟨a, _, e, _⟩ := S.en.cells n (hfree n hn); exact ⟨a, e⟩
  refine wpAny_comprehension_free (g := ⟨target, iter, ifs, 0⟩) (gs := gs) rfl (noSetIter hs) hclos hkind (fun x hx e => by rw [← e]; exact lookup_mem_nodup nd hx) ?_
  refine IHE sc X F env g.2.1 iter hK _ _ _ _ _ _ _ _ S e1 fun v1 s1 O1 ad1 H1 t1 p1 r1 => rVal_e ev r1 fun iv _ r1 ev => vS_e ev fun items e2 ev => obn_e ev fun vs hp2 e3 ev => oIf_e ev fun hlen ev => ?_
  have S1 := S.step H1 t1 p1
  refine p_iter hh r1 e2 fun o fp PP Sx it st => wpAny_newObj_type (new_frame ?_)
  simp only [List.forIn_nil]
  refine wpAny_pure ?_
  have hI : (s1.heap.push o).objs.size = s1.heap.objs.size + 1 := Heap.size_push ..
  have hz3 : ((s1.heap.push o).push (listObj [] 0)).objs.size = s1.heap.objs.size + 1 + 1 := by simp only [Heap.size_push, hI]
  have kp23 : Kp (s1.heap.push o) ((s1.heap.push o).push (listObj [] 0)) := Kp.push _ _
  have kp3 : Kp s1.heap ((s1.heap.push o).push (listObj [] 0)) := (Kp.push _ _).trans kp23
  have gD3 : ((s1.heap.push o).push (listObj [] 0)).get? (s1.heap.objs.size + 1) = some (listObj [] 0) := hI ▸ Heap.get?_push_size _ rfl
  have nI1 := it.new
  have nD1 : s1.heap.get? (s1.heap.objs.size + 1) = none := Heap.get?_none_of_le (Nat.le_succ _)
  have nDI : s1.heap.objs.size + 1 ≠ s1.heap.objs.size := Nat.succ_ne_self _
  show codeAny _ A (.compStart _ 0 (.ref s1.heap.objs.size) (.ref (s1.heap.push o).objs.size) (cEnv scope env ((s1.heap.push o).push (listObj [] 0)).objs.size)) _ { s1 with heap := pushCells (((s1.heap.push o).push (listObj [] 0)).push { cls := .type "dict", data := .dict #[] }) scope.names }
  simp only [hI]
  generalize (s1.heap.push o).push (listObj [] 0) = h3 at hz3 kp23 kp3 gD3 ⊢
  generalize s1.heap.objs.size + 1 = D at hz3 gD3 nD1 nDI ⊢
  generalize s1.heap.objs.size = I at it nI1 nDI ⊢
  have hX3 : ∀ b, (fun b => (X b ∨ b = D) ∨ b = I) b → X b ∨ s1.heap.get? b = none := fun b q =>
    q.elim (fun q => q.elim .inl fun q => .inr (q ▸ nD1)) fun q => .inr (q ▸ nI1)
  have H3 : SR c { s1 with heap := h3, toks := s1.toks } O1 (fun b => (X b ∨ b = D) ∨ b = I) ad1 hp1 := H1.reX kp3 hX3 fun b q =>
    q.elim (fun q => q.elim (fun q => by obtain ⟨o, e⟩ := S1.xlive b q; exact ⟨o, kp3 _ _ e⟩) fun q => q ▸ ⟨_, gD3⟩) fun q => hide fun G hG => by obtain ⟨o', _, _, ho, _⟩ := it.data 0 _ st; exact hG (q ▸ ⟨o', kp23 _ _ ho⟩)
  have cellOf : ∀ n a, (closL env scope.names []).lookup n = some a → env.cells.lookup n = some a ∧ (∃ v, s1.heap.IsCell a v) ∧ ¬ O1 a := fun n a e => by
    rcases closL_look e with q | ⟨q1, q2⟩
    · injection q
    · obtain ⟨a', v, e', hc, no⟩ := S1.en.cells n (hfree n q1)
      rw [e'] at q2; subst q2
      exact ⟨e', ⟨v, hc⟩, no⟩
  have C3 : Clo h3 O1 (closL env scope.names []) :=
    ⟨fun n a e => ⟨by obtain ⟨v, hc⟩ := (cellOf n a e).2.1; exact ⟨v, hc.keeps kp3⟩, (cellOf n a e).2.2⟩, fun n n' a e e' => S1.en.inj n n' a (cellOf n a e).1 (cellOf n' a e').1⟩
  have hfree3 : ∀ n, scope.names.lookup n = some .free → ∃ a, (closL env scope.names []).lookup n = some a := fun n e => Option.isSome_iff_exists.mp (closL_has (.inl (lookup_mem_of e)))
  obtain ⟨F', S4, kp4, newF⟩ := enter (c := c) (names := scope.names) (T := "dict") (tk := s1.toks) (env := cEnv scope env h3.objs.size)
    H3 C3 nd hfree3 hkind S1.en.glob S1.en.blt rfl rfl
    (fun n kk e => by
      show (relabel scope env).names.lookup n = _ ∨ _ ∧ (relabel scope env).names.lookup n = _
      unfold relabel
      rw [relabel_kind (scope := scope), e]
      simp only [Option.map_some]
      split
      · rename_i q
        simp only [Bool.and_eq_true, beq_iff_eq] at q
        exact .inr ⟨q.1.1, rfl⟩
      · exact .inl rfl)
    (fun n e => by
      have e' : (relabel scope env).names.lookup n = some .cell ∨ (relabel scope env).names.lookup n = some .free := e
      unfold relabel at e'
      rw [relabel_kind (scope := scope)] at e'
      induction z : scope.names.lookup n with
      | none => rw [z] at e'; simp at e'
      | some kk =>
        rw [z] at e'
        dsimp only [Option.map_some, Option.some.injEq] at e'
        split at e'
        · rename_i q
          simp only [Bool.and_eq_true, beq_iff_eq] at q
          exact .inr (by rw [q.1.1])
        · rcases e' with e' | e' <;> simp [e'])
  have kp14 := kp3.trans kp4
  have F1 : ∀ b, F' b → s1.heap.get? b = none := fun b f => by
    induction z : s1.heap.get? b with
    | none => rfl
    | some o => have := kp3 _ _ z; rw [newF b f] at this; injection this
  have S5 : St c O1 (fun b => (X b ∨ b = D) ∨ b = I) F' ad1 hp1 (loc0 fv loc) scope.names _ _ := ⟨S4.sr, S4.en, fun y rv q => by
    refine hide fun G hG => ?_
    obtain ⟨hy, hq⟩ := lookup_loc0 loc fv q
    obtain ⟨ly, v, r, hv⟩ := S1.lo y rv hq
    have hk := List.all_eq_true.mp hfv y hy
    simp only [Bool.and_eq_true, decide_eq_true_eq, beq_iff_eq] at hk
    refine hG ?_
    refine ⟨ly, v, r.reX kp14 hX3, .inr ⟨?_, ?_⟩⟩
    · rcases S4.en.kinds _ _ hk.2 with z | ⟨_, z⟩
      · exact .inr z
      · exact .inl z
    · rcases hv with ⟨kk, _⟩ | ⟨_, a, hl, hc⟩
      · rcases hfree _ (lookup_mem_of hk.2) with z | z <;> rw [kk] at z <;> cases z
      · obtain ⟨a', ha'⟩ := hfree3 _ hk.2
        have := (cellOf _ _ ha').1
        rw [hl] at this; obtain rfl := Option.some.inj this
        refine ⟨a, ?_, hc.keeps kp14⟩
        show (cellsFrom _ scope.names _).lookup (c.nm y) = some a
        rw [cellsFrom_app, lookup_app]
        induction z : (cellsFrom (h3.objs.size + 1) scope.names []).lookup (c.nm y) with
        | none => rw [ha']; rfl
        | some a'' =>
          have := lookup_mem_nodup nd (cellsFrom_mem (mem_of_lookup z))
          rw [hk.2] at this; cases this⟩
  have st4 := it.W.frame 0 _ _ st fun b _ o e => (kp23.trans kp4) b o e
  refine cs_start ⟨_, _, rfl⟩ (g := ⟨target, iter, ifs, 0⟩) rfl rfl ?_ (fun Q E q => it.W.self 0 _ Q E st4 q)
  simp only [chkDom, Bool.and_eq_true] at hdm
  refine comp_loop (c := c) (sc := scope.names) (F := F') (r := r) (fun X ce e h => IHE scope.names X F' _ ce e h) (fun X ce e h => IHB scope.names X F' _ ce e h) ok hh hE (D := D) (S1.old nD1) cgs (gens := ⟨target, iter, ifs, 0⟩ :: gs) (d := 0) rfl hcls hT hifs hdm.1 hdm.2
    (X := fun b => X b ∨ b = D) (s := s1) (l := loc0 fv loc) (xs := []) (I := I) (fun b o g d f => by rw [F1 b f] at g; injection g) S5 (.inr rfl)
    (fun z => z.elim (fun z => by obtain ⟨_, e⟩ := S1.xlive _ z; rw [nI1] at e; injection e) fun z => nDI z.symm) (S1.old nI1) ⟨[], 0, kp4 _ _ gD3, rfl⟩
    (it.reY fun b z => z.elim (fun z => .inl (.inl z)) fun z => z.elim (fun z => .inl (.inr z)) fun z => .inr (z ▸ nD1))
    st4 (Step.stay kp14) (fun y rv q => (lookup_loc0 loc fv q).1) e3 (by simpa using hlen) fun s5 O5 ad5 S6 t5 p5 ac5 => ?_
  have fL := S6.en.fL
  change F' h3.objs.size at fL
  have nL1' : s1.heap.get? h3.objs.size = none := F1 _ fL
  have nsL : ∃ m, s5.heap.Ns h3.objs.size m := S6.en.ns
  have nL5 := S6.en.fO _ fL
  have fin : ∀ {O6 : Addr → Prop} {ad6 : AdT} {h6 : Hp}, some (mkList mt vs hp2) = some (rv, hp') → SR c s5 O6 X ad6 h6 → h6 = hp' → RepRV s5.heap (U O6 X) ad6 rv (.ref D) → Step s1.heap O1 s5.heap O6 → Prefix ad1 ad6 → ¬ O6 h3.objs.size → compPost (model c.prog c.w) A NoE use Q (.ref D) h3.objs.size (.ok .next) s5   := fun e H eh r t p nO =>
    k _ _ s5 _ _ (S1.step (eh ▸ H) t p) (t1.trans t) (p1.trans p) r nsL nO (S6.en.fnew _ fL) (fun z => by obtain ⟨_, e⟩ := S1.xlive _ z; rw [nL1'] at e; injection e)
      (fun z => by obtain ⟨_, e, _⟩ := S1.en.fdata _ z; rw [nL1'] at e; injection e) fun z => by
        induction q : s.heap.get? h3.objs.size with
        | none => rfl
        | some o' => have := t1.keep _ _ z q; rw [nL1'] at this; injection this
  have nD : ¬ X D := fun z => by obtain ⟨_, e⟩ := S1.xlive _ z; rw [nD1] at e; injection e
  have H6 : SR c s5 O5 X ad5 hp2 := S6.sr.reX (h' := s5.heap) (tk := s5.toks) (Kp.refl _) (fun b q => .inl (.inl q)) (fun b q => S6.xlive b (.inl q))
  have t15 : Step s1.heap O1 s5.heap O5 := ⟨fun b o' nb e => t5.keep b o' (fun z => z.elim (fun z => z.elim nb fun z => by rw [F1 b z] at e; injection e) fun z => by rw [z, nD1] at e; injection e) e, fun b q => by
    rcases t5.grow b (.inl (.inl q)) with ((z | z) | z) | z
    · exact .inl z
    · exact .inr (F1 b z)
    · exact .inr (z ▸ nD1)
    · exact .inr z⟩
  refine hide fun G hG => ?_
  obtain ⟨its, m, gD, rD⟩ := ac5
  rw [List.nil_append] at rD
  refine hG ?_
  induction mt with
  | false =>
    have e' := ev
    cases ev
    exact fin e' H6 rfl ⟨_, its, m, rfl, fun z => z.elim (S6.sr.xin D (.inr rfl)).1 nD, gD, by rw [rD.length]; exact hlen, rD.mono fun b x n e _ => ⟨e, fun z => n (z.elim .inl fun z => .inr (.inl z))⟩⟩ t15 p5 nL5
  | true =>
    have e' := ev
    cases ev
    exact fin e' (S6.sr.adopt (X := X) (fun b z => .inl z) (.inr rfl) nD (S1.old nD1) gD hlen rD) rfl ⟨_, D, by rw [← H6.hr.len, List.getElem?_append_right (Nat.le_refl _)]; simp, rfl⟩
      ⟨t15.keep, fun b q => q.elim (t15.grow b) fun z => .inr (z ▸ nD1)⟩ (p5.trans (.snoc _ _)) fun z => z.elim nL5 fun z => Nat.succ_ne_self D (hz3.symm.trans z)
theorem Step.turnOff {h₀ h h' : Heap} {O O' : Addr → Prop} {L : Addr} (t : Step h₀ O h O') (k : ∀ b x, b ≠ L → h.get? b = some x → h'.get? b = some x) (n : ¬ O L → h₀.get? L = none) : Step h₀ O h' O' :=
  ⟨fun b o nb e => k b o (fun z => by subst z; rw [n nb] at e; injection e) (t.keep b o nb e), t.grow⟩
include IHE IHB in
theorem n_comp (ok : c.OK) (hh : A.handled = none) {mt : Bool} {fv : List Nat} {celt : CE} {cgens : List (CT × CE × List CE)} {elt : Expr} {gens : List Comprehension} {scope : Scope} {pos : Pos} (h : chkComp c.toNm sc K KB fv celt cgens elt gens scope = true) :
    OkE c A sc X F env (.ListComp elt gens scope pos) (fun l h => stepE P C r l h (.comp mt fv celt cgens)) := fun O ad loc hp s rv hp' Q S e k => by
  simp only [arm_eval_ListComp]
  refine comp_core IHE IHB ok hh h (use := none) S e fun D L s' O' ad' S' t p rr hns nO n0 nX nF hL => ?_
  obtain ⟨m, hm⟩ := hns
  refine ⟨m, hm, fun h' hs => ?_⟩
  obtain ⟨o, es, ep, ho, hd, _⟩ := id hm
  have S2 := S'.turnD (h' := h') (tk := s'.toks) ⟨o, es, ep, ho, hd⟩ nO n0 nX nF (fun b x nb e => hs.extBut b x nb e)
  refine k _ _ O' ad' S2.sr (t.turnOff (fun b x nb e => hs.extBut b x nb e) hL) p ?_
  refine rr.mono (fun b x n e d => ⟨hs.extBut b x (fun z => by
    rw [z, ho] at e; obtain rfl := Option.some.inj e
    rcases d with ⟨_, _, d⟩ | ⟨_, d⟩ <;> rw [hd] at d <;> injection d) e, n⟩) (.refl _)
end
end Mine.Internal
namespace Mine.Internal
open PySem PySem.W PyProof.Rows
variable {c : Cx} {A : Around} {sc : Sc} {O O1 X X' F : Addr → Prop} {env : Env} {ad ad1 : AdT} {hp hp1 hp' : Hp} {loc loc' loc2 : Loc} {s s1 : Shared} {cl : Nat} {flds : List Nat}
section
variable {P : Prog} {C : CallT} {r : EV} {K KB : Sc → CE → Expr → Bool}
variable (IHE : ∀ sc X F env ce e, K sc ce e = true → OkE c A sc X F env e (fun l h => r.E l h ce)) (IHB : ∀ sc X F env ce e, KB sc ce e = true → OkB c A sc X F env e (fun l h => r.B l h ce))
variable {r2 : EV} (IHE2 : ∀ sc X F env ce e, K sc ce e = true → OkE c A sc X F env e (fun l h => r2.E l h ce)) (IHB2 : ∀ sc X F env ce e, KB sc ce e = true → OkB c A sc X F env e (fun l h => r2.B l h ce))
include IHE2 IHB2 in
theorem s_asgComp (ok : c.OK) (hh : A.handled = none) {x : Nat} {mt : Bool} {fv : List Nat} {celt : CE} {cgens : List (CT × CE × List CE)} {elt : Expr} {gens : List Comprehension} {scope : Scope} {y : Str} {cp p pos : Pos} (h : chkComp c.toNm sc K KB fv celt cgens elt gens scope = true)
    (hr : ∀ l h, r.E l h (.comp mt fv celt cgens) = stepE P C r2 l h (.comp mt fv celt cgens)) (hv : okVar c.toNm sc x y = true) :
    OkS c A sc X F env (.Assign [.Name y p] (.ListComp elt gens scope cp) pos) (fun l h => stepS P C r l h (.asg (.name x) (.comp mt fv celt cgens))) := fun O ad loc hp s out loc' hp' Q S ev k => by
  obtain ⟨hx, rfl, hk⟩ := okVar_of hv
  refine obn_e ev fun v hp1 e1 ev => ?_
  · revert k
    refine oT_e ev fun k => ?_
    rw [hr] at e1
    obtain ⟨b, hb⟩ : ∃ b, swapsWith (.ListComp elt gens scope cp) (some (.Name (c.nm x) p)) pos.line env = pure b := ⟨_, rfl⟩
    induction b with
    | false =>
      refine wpAny_Assign_Name (n_comp IHE2 IHB2 ok hh h _ _ _ _ _ _ _ _ S e1 fun v1 s1 O1 ad1 H1 t1 p1 r1 => ?_) hb
      exact (S.step H1 t1 p1).storeVar ok hx hk r1 fun s2 S2 t2 => k _ _ _ _ S2 ((t1.av F).trans t2) p1 rfl
    | true =>
      rw [arm_exec_Assign]
      refine wpAny_bind (wpAny_standAt (wpAny_bind ?_))
      rw [show swapsWithSole [.Name (c.nm x) p] (.ListComp elt gens scope cp) pos.line env = pure true from hb]
      refine wpAny_pure ?_
      rw [if_pos rfl]
      rw [arm_evalThenUse_ListComp]
      obtain ⟨u, hu, hu'⟩ : ∃ u : Value → Sem Unit, (fun v => assignAll v ((assignEach [.Name (c.nm x) p] env).map (·.2))) = u ∧ ∀ v, u v = assign (.Name (c.nm x) p) env v := ⟨_, rfl, fun _ => rfl⟩
      rw [hu]
      refine wpAny_bind ?_
      dsimp only
      have cc := comp_core (A := A) (P := P) (C := C) IHE2 IHB2 ok hh h (mt := mt) (pos := cp) (use := some u) (Q := fun _ s' => Q .next s') S e1
      refine wpAny_bind (wpAny_mono (cc fun D L s' O' ad' S' t pf rr hns nO n0 nX nF hL => ?_) (fun _ _ x => wpAny_pure (wpAny_pure x)) (fun _ _ x => x))
      show wpAny _ A (u (.ref D)) _ NoE s'
      rw [hu']
      refine PyProof.Rows.assign_Name (S'.storeVar ok hx hk rr fun s2 S2 t2 => ?_)
      obtain ⟨m, o, es, ep, ho, hd, r'⟩ := hns
      have ho2 := t2.keep L o (fun z => z.elim nO nF) ho
      refine ⟨m, ⟨o, es, ep, ho2, hd, r'⟩, fun h' hs => ?_⟩
      have S3 := S2.turnD (h' := h') (tk := s2.toks) ⟨o, es, ep, ho2, hd⟩ nO n0 nX nF (fun b x nb e => hs.extBut b x nb e)
      exact k _ O' ad' _ S3 (((t.av F).trans t2).turnOff (fun b x nb e => hs.extBut b x nb e) fun z => hL fun q => z (.inl q)) pf rfl
end
end Mine.Internal
namespace Mine.Internal
open PySem PySem.W PyProof.Rows
theorem zip_look : ∀ (ns : List Str) (vs : List Value), ns.Nodup → vs.length = ns.length → ns.filterMap (fun n => ((ns.zip vs).lookup n).map (n, ·)) = ns.zip vs := by
  have key : ∀ (ns : List Str) (vs : List Value) (f : Str → Option Value), vs.length = ns.length → (∀ (i : Nat) (n : Str) (v : Value), ns[i]? = some n → vs[i]? = some v → f n = some v) → ns.filterMap (fun n => (f n).map (n, ·)) = ns.zip vs := by
    intro ns
    induction ns with
    | nil => intro vs f _ _; rfl
    | cons n ns ih =>
      intro vs f hl hf
      induction vs with
      | nil => simp at hl
      | cons v vs =>
        rw [List.filterMap_cons, hf 0 n v rfl rfl]
        simp only [Option.map_some, List.zip_cons_cons]
        rw [ih vs f (by simpa using hl) fun i m u a b => hf (i + 1) m u (by simpa using a) (by simpa using b)]
  intro ns vs nd hl
  refine key ns vs _ hl fun i n v hn hv => ?_
  refine lookup_mem_nodup (by rw [List.map_fst_zip (by lia)]; exact nd) ?_
  exact List.mem_of_getElem? (i := i) (by simp [List.getElem?_zip_eq_some, hn, hv])
theorem zip_has : ∀ (ns : List Str) (vs : List Value), vs.length = ns.length → ∀ n ∈ ns, ((ns.zip vs).lookup n).isSome = true
  | [], _ => @fun _ n h => nM h
  | m :: ns, [] => @fun hl _ _ => by simp at hl
  | m :: ns, v :: vs => @fun hl n h => by
    rw [List.zip_cons_cons, List.lookup_cons]
    by_cases e : n = m
    · subst e; simp
    · rw [beq_false_of_ne e]
      exact zip_has ns vs (by simpa using hl) n ((List.mem_cons.mp h).resolve_left e)
theorem bind_plain {fd : FuncData} {as : List Arg} {kwd : List (Option Expr)} {vs : List Value} (hp : fd.params = ⟨[], as, none, [], kwd, none, []⟩) (hd : fd.defaults = .none) (hl : vs.length = as.length) (nd : (as.map (·.arg)).Nodup) :
    bindArgs fd ⟨vs, []⟩ = pure ((as.map (·.arg)).zip vs) := by
  have hlen : vs.length = (as.map (·.arg)).length := by simp [hl]
  have hm : (as.map (·.arg)).filter (fun n => (((as.map (·.arg)).zip vs).lookup n).isNone) = [] := List.filter_eq_nil_iff.mpr fun n hn => by
    have := zip_has _ vs hlen n hn
    rw [Option.isNone_iff_eq_none]
    intro e; rw [e] at this; exact nB this
  have hs : seqItems? Value.none = pure none := rfl
  unfold bindArgs
  rw [hp, hd]
  simp only [List.map_nil, List.nil_append, hs, pure_bind, Option.getD_none, List.forIn_nil, List.append_nil]
  rw [if_neg (by simp [hl])]
  simp only [List.drop_nil, List.length_nil, Nat.sub_zero, List.take_length, hm, List.isEmpty_nil, Bool.not_true, Bool.false_eq_true, if_false, List.drop_length, List.zip_nil_right, List.forIn_nil, pure_bind]
  simp only [zip_look _ _ nd hlen]
theorem Room.deeper {A : Around} {cl : Nat} (r : Room A (cl + 1)) (env : Env) : (A.deeper env).handled = none ∧ (A.deeper env).depth + 4 * cl + 2 ≤ 900 ∧ (A.deeper env).units + 10 * cl + 4 ≤ 9000 := by
  obtain ⟨h1, h2, h3⟩ := r
  refine ⟨h1, ?_, ?_⟩
  · have : (A.deeper env).depth = A.depth + 1 := rfl
    lia
  · have : (A.deeper env).units = A.units + 3 := rfl
    lia
theorem room_under {A : Around} {cl : Nat} {C : Addr} {rest : List Value} (h1 : A.handled = none) (h2 : A.depth + 4 * cl + 2 ≤ 900) (h3 : A.units + 10 * cl + 4 ≤ 9000) : Room (A.under (.builtin "type.__call__" ⟨.ref C :: rest, []⟩)) cl := by
  refine ⟨h1, ?_, ?_⟩
  · have : (A.under (.builtin "type.__call__" ⟨.ref C :: rest, []⟩)).depth = A.depth + 1 := rfl
    lia
  · have : (A.under (.builtin "type.__call__" ⟨.ref C :: rest, []⟩)).units = A.units + 1 := rfl
    lia
end Mine.Internal
namespace Mine.Internal
open PySem PySem.W PyProof.Rows
variable {c : Cx} {A : Around} {sc : Sc} {O O1 X X' F : Addr → Prop} {env : Env} {ad ad1 : AdT} {hp hp1 hp' : Hp} {loc loc' loc2 : Loc} {s s1 : Shared} {cl : Nat} {flds : List Nat}
structure FnRel (c : Cx) (f : Nat) (fd : FnC) (Fd : FuncData) (as : List Arg) (kwd : List (Option Expr)) (body : List Stmt) : Prop where
  obj : ∃ oc od sl, c.K.lookup (c.fA f) = some ⟨oc, od, .func Fd, sl⟩
  params : Fd.params = ⟨[], as, none, [], kwd, none, []⟩
  defaults : Fd.defaults = .none
  body : Fd.body = .stmts body
  co : Fd.scope.isCoroutine = false
  gen : Fd.scope.isGenerator = false
  kind : Fd.scope.kind = .function
  glob : Fd.globals = mainGlobals
  blt : Fd.builtins = builtinsNs
  code : codeIn c.K Fd.code Fd.qualname = true
  nd : (Fd.scope.names.map (·.1)).Nodup
  args : as.map (·.arg) = fd.params.map c.nm
  pn : fd.params.Nodup
  pok : ∀ x ∈ fd.params, x < c.N ∧ (Fd.scope.names.lookup (c.nm x) = some .local ∨ Fd.scope.names.lookup (c.nm x) = some .cell)
  free : ∀ n, Fd.scope.names.lookup n = some .free → ∃ a, Fd.closure.lookup n = some a
  clos : ∀ n a, Fd.closure.lookup n = some a → ∃ oc od v sl, c.K.lookup a = some ⟨oc, od, .cell v, sl⟩
  closinj : ∀ n n' a, Fd.closure.lookup n = some a → Fd.closure.lookup n' = some a → n = n'
theorem store_binds (ok : c.OK) : ∀ {xs : List Nat} {rvs : List RV} {vs : List Value} {loc : Loc} {s : Shared} {Q : PUnit → Shared → Prop}, (∀ x ∈ xs, x < c.N ∧ (sc.lookup (c.nm x) = some .local ∨ sc.lookup (c.nm x) = some .cell)) → xs.length = rvs.length → St c O X F ad hp loc sc env s → RepRVs s.heap (U O X) ad rvs vs →
    (∀ s', St c O X F ad hp (putAll (xs.zip rvs) loc) sc env s' → Step s.heap (U O F) s'.heap (U O F) → Q ⟨⟩ s') →
    wpAny (model c.prog c.w) A (forIn ((xs.map c.nm).zip vs) ⟨⟩ fun (x : Str × Value) (_ : PUnit) => do storeName env x.1 x.2; pure (.yield ⟨⟩)) Q NoE s
  | [], rvs, vs, loc, s, Q => @fun hx hl S r k => by
    rw [List.map_nil, List.zip_nil_left, List.forIn_nil]
    refine wpAny_pure (k s ?_ (Step.refl _ _))
    simpa [putAll] using S
  | x :: xs, rvs, vs, loc, s, Q => @fun hx hl S r k => by
    cases rvs with
    | nil => simp at hl
    | cons rv rvs =>
      obtain ⟨v, rs, rfl, r1, r2⟩ := r
      rw [List.map_cons, List.zip_cons_cons, List.forIn_cons]
      obtain ⟨hx1, hx2⟩ := hx x (.head _)
      refine wpAny_bind (wpAny_bind (S.storeVar ok hx1 hx2 r1 fun s1 S1 t1 => wpAny_pure ?_))
      have r2' : RepRVs s1.heap (U O X) ad rvs rs := r2.mono (fun b o n g d => by
        have nf := S.en.notF g d
        have nu : ¬ U O F b := fun z => z.elim (fun z => n (.inl z)) nf
        exact ⟨t1.keep b o nu g, n⟩) (.refl _)
      exact store_binds ok (fun y hy => hx y (.tail _ hy)) (by simpa using hl) S1 r2' fun s2 S2 t2 => k s2 S2 (t1.trans t2)
theorem fn_enter (ok : c.OK) {f : Nat} {fd : FnC} {Fd : FuncData} {as : List Arg} {kwd : List (Option Expr)} {body : List Stmt} (fr : FnRel c f fd Fd as kwd body) (rm : Room A (cl + 1)) {args : List RV} {vs : List Value} {R : Result → Shared → Prop}
    (H : SR c s O X ad hp) (r : RepRVs s.heap (U O X) ad args vs) (hz : zipL fd.params args = some loc)
    (k : ∀ F env s', St c O X F ad hp loc Fd.scope.names env s' → Step s.heap O s'.heap O → (∀ b, F b → s.heap.get? b = none) → env = newEnv Fd.scope s.heap.objs.size Fd.globals (cellsFrom (s.heap.objs.size + 1) Fd.scope.names Fd.closure) (Fd.qualname ++ ".<locals>.") (some (c.fA f)) Fd.code none Fd.builtins →
      codeAny (model c.prog c.w) A (.func body env) R s') :
    codeAny (model c.prog c.w) A (.call (.ref (c.fA f)) ⟨vs, []⟩) R s := by
  obtain ⟨oc, od, sl, ho⟩ := fr.obj
  have X₀ := ok.kin.keeps H.keep
  unfold zipL at hz
  split at hz
  · rename_i hlen
    cases hz
    have hl1 : vs.length = as.length := by
      have h1 := congrArg List.length fr.args
      simp at h1
      rw [r.length, ← hlen, h1]
    have hnd : (as.map (·.arg)).Nodup := by
      rw [fr.args]
      have : ∀ {l : List Nat}, l.Nodup → (∀ x ∈ l, x < c.N) → (l.map c.nm).Nodup := by
        intro l
        induction l with
        | nil => intro _ _; exact List.Pairwise.nil
        | cons x l ih =>
          intro nd hx
          rw [List.nodup_cons] at nd
          rw [List.map_cons, List.nodup_cons]
          refine ⟨fun m => ?_, ih nd.2 fun y hy => hx y (.tail _ hy)⟩
          obtain ⟨y, hy, e⟩ := List.mem_map.mp m
          have := ok.inj _ _ (hx y (.tail _ hy)) (hx x (.head _)) e
          exact nd.1 (this ▸ hy)
      exact this fr.pn fun x hx => (fr.pok x hx).1
    refine codeAny_call_function (by have := rm.2.1; unfold recursionLimit; lia) (X₀ _ _ ho) rfl fr.co fr.gen fr.body (codeRec_of X₀ fr.code) (wpAny_of_eq (bind_plain fr.params fr.defaults hl1 hnd) ?_)
    refine noE (A := A.in1) (new_frame ?_)
    have C : Clo s.heap O Fd.closure := ⟨fun n a e => by
      obtain ⟨oc, od, v, sl, hk⟩ := fr.clos n a e
      have h0 := ok.kin _ _ hk
      exact ⟨⟨v, _, H.keep _ _ h0, rfl⟩, fun z => by rw [H.own a z] at h0; cases h0⟩, fr.closinj⟩
    obtain ⟨F, S1, kp, nF⟩ := enter (c := c) (names := Fd.scope.names) (T := "frame") (tk := s.toks) (env := newEnv Fd.scope s.heap.objs.size Fd.globals (cellsFrom (s.heap.objs.size + 1) Fd.scope.names Fd.closure) (Fd.qualname ++ ".<locals>.") (some (c.fA f)) Fd.code none Fd.builtins)
      H C fr.nd fr.free fr.kind fr.glob fr.blt rfl rfl (fun n kk e => .inl e) (fun n e => e)
    rw [fr.args]
    refine store_binds ok fr.pok hlen S1 (r.step ((Step.stay kp : Step s.heap O _ O).av X) (.refl _)) fun s2 S2 t2 => ?_
    have t1 : Step s.heap O s2.heap O := ⟨fun b o nb e => t2.keep b o (fun z => z.elim nb fun z => by rw [nF b z] at e; cases e) (kp b o e), fun b z => .inl z⟩
    refine ⟨ok.lim.keeps S2.sr.keep, k F _ s2 (S2.congr fun y => ?_) t1 nF rfl⟩
    rw [lookup_putAll _ _ _ (by rw [List.map_fst_zip (by lia)]; exact fr.pn)]
    simp [lookupL]
  · cases hz
noncomputable def OkBody (c : Cx) (cl : Nat) (names : Sc) (fd : FnC) (body : List Stmt) (C : CallT) : Prop :=
  ∀ (A : Around) (X F : Addr → Prop) (env : Env), A.handled = none → A.depth + 4 * cl + 2 ≤ 900 → A.units + 10 * cl + 4 ≤ 9000 → OkSs c A names X F env body (fun l h => block (evD c.P C bodyDepth).S fd.body l h)
theorem fn_body (ok : c.OK) {f : Nat} {fd : FnC} {Fd : FuncData} {as : List Arg} {kwd : List (Option Expr)} {body : List Stmt} (fr : FnRel c f fd Fd as kwd body) (hs : fd.sup = none) (rm : Room A (cl + 1)) (hb : OkBody c cl Fd.scope.names fd body (callN c.P cl))
    {args : List RV} {vs : List Value} {rv : RV} {R : Result → Shared → Prop} (hf : c.P.fn[f]? = some fd)
    (H : SR c s O X ad hp) (r : RepRVs s.heap (U O X) ad args vs) (ev : callN c.P (cl + 1) f args hp = some (rv, hp')) (k : PE c X s O ad rv hp' (fun v s' => R (.ok (.ret v)) s')) :
    codeAny (model c.prog c.w) A (.call (.ref (c.fA f)) ⟨vs, []⟩) R s := by
  refine vS_e ev fun fd' hf' ev => vS_e ev fun loc hz ev => ?_
  obtain rfl : fd = fd' := Option.some.inj (hf.symm.trans hf')
  unfold bodyGo at ev
  rw [hs] at ev
  refine vS_e ev fun ⟨out, l2, h2⟩ e1 e2 => ?_
  refine fn_enter ok fr rm H r hz fun F env s1 S1 t1 nF henv => codeAny_func (noE ?_)
  obtain ⟨a1, a2, a3⟩ := rm.deeper env
  refine hb (A.deeper env) X F env a1 a2 a3 _ _ _ _ _ _ _ _ _ S1 e1 fun s2 O2 ad2 fl S2 t2 p2 r2 => ?_
  have t12 : Step s.heap O s2.heap O2 := ⟨fun b o nb e => by
      have g1 := t1.keep b o nb e
      exact t2.keep b o (fun z => z.elim (fun z => t1.not e nb z) fun z => by rw [nF b z] at e; cases e) g1, fun b z => by
    rcases t2.grow b (.inl z) with (q | q) | q
    · exact t1.grow b q
    · exact .inr (nF b q)
    · cases z' : s.heap.get? b with
      | none => exact .inr rfl
      | some o =>
        by_cases nb : O b
        · exact .inl nb
        · rw [t1.keep b o nb z'] at q; cases q⟩
  cases out with
  | next => cases r2; cases e2; exact k .none s2 O2 ad2 S2.sr t12 p2 rfl
  | ret rv1 =>
    obtain ⟨v, rfl, rr⟩ := r2
    cases e2
    exact k v s2 O2 ad2 S2.sr t12 p2 rr
end Mine.Internal
namespace Mine.Internal
open PySem PySem.W PyProof.Rows
variable {c : Cx} {A : Around} {sc : Sc} {O O1 X X' F : Addr → Prop} {env : Env} {ad ad1 : AdT} {hp hp1 hp' : Hp} {loc loc' loc2 : Loc} {s s1 : Shared} {cl : Nat} {flds : List Nat}
structure Special (c : Cx) : Prop where
  tupzip : ∀ {A : Around} {cl : Nat} {sc : Sc} {X F env} {P C} {r : EV} {K : CE → Expr → Bool} {a b ea eb p p2 p3 pos}, Room A cl → (∀ ce e, K ce e = true → OkE c A sc X F env e (fun l h => r.E l h ce)) → chkL K [a, b] [ea, eb] = true → isG sc "tuple" = true → isG sc "zip" = true →
    OkE c A sc X F env (.Call (.Name "tuple" p) [.Call (.Name "zip" p2) [ea, eb] [] p3] [] pos) (fun l h => stepE P C r l h (.tupzip a b))
  sortset : ∀ {A : Around} {cl : Nat} {sc : Sc} {X F env} {P C} {r : EV} {K : CE → Expr → Bool} {a ea p p2 p3 pos}, Room A cl → (∀ ce e, K ce e = true → OkE c A sc X F env e (fun l h => r.E l h ce)) → chkL K [a] [ea] = true → isG sc "sorted" = true → isG sc "set" = true →
    OkE c A sc X F env (.Call (.Name "sorted" p) [.Call (.Name "set" p2) [ea] [] p3] [] pos) (fun l h => stepE P C r l h (.sortset a))
structure Base (c : Cx) (flds : List Nat) : Prop where
  ok : c.OK
  gl : c.Gl
  cls : c.Cl flds
  sp : Special c
theorem stepB_plain {r : EV} {l h ce} (hp : plainCE ce = true) : stepB r l h ce = obn (r.E l h ce) fun v hp1 => vB none v fun b => some (b, hp1) := by rcases ce with _ | _ <;> first | rfl | exact (nB hp)
theorem chkB_plain {c : Nm} {n sc ce e} (hp : plainCE ce = true) (h : chkB c flds (n + 1) sc ce e = true) : (plainTest e && chkE c flds n sc ce e) = true := by rcases ce with _ | _ <;> first | exact h | exact (nB hp)
set_option maxHeartbeats 4000000 in
theorem sound_E (B : Base c flds) (hh : A.handled = none) (hd : A.depth + 4 * cl + 2 ≤ 900) (hu : A.units + 10 * cl + 4 ≤ 9000) {C : CallT} (okC : OkC c cl C) :
    ∀ d, (∀ n sc X F env ce e, chkE c.toNm flds n sc ce e = true → OkE c A sc X F env e (fun l h => (evD c.P C d).E l h ce)) ∧ (∀ n sc X F env ce e, chkB c.toNm flds n sc ce e = true → OkB c A sc X F env e (fun l h => (evD c.P C d).B l h ce)) := by
  have rm : Room A cl := ⟨hh, by lia, by lia⟩
  intro d
  induction d with
  | zero => exact ⟨fun n sc X F env ce e h O ad loc hp s rv hp' Q S ev k => (by exact nS ev), fun n sc X F env ce e h O ad loc hp s rv hp' Q S ev k => (by exact nS ev)⟩
  | succ d ih =>
    obtain ⟨ihE, ihB⟩ := ih
    refine ⟨fun n sc X F env ce e h => ?_, fun n sc X F env ce e h => ?_⟩
    · cases n with
      | zero => exact (nomatch (show false = true from h))
      | succ n =>
        have IHE : ∀ ce e, chkE c.toNm flds n sc ce e = true → OkE c A sc X F env e (fun l h => (evD c.P C d).E l h ce) := fun ce e h => ihE n sc X F env ce e h
        have IHB : ∀ ce e, chkB c.toNm flds n sc ce e = true → OkB c A sc X F env e (fun l h => (evD c.P C d).B l h ce) := fun ce e h => ihB n sc X F env ce e h
        show OkE c A sc X F env e (fun l h => stepE c.P C (evD c.P C d) l h ce)
        cases ce with
        | cnone => exact onCon_e h fun v k pos h => eq_e h n_none
        | cbool b => exact onCon_e h fun v k pos h => eq_e h n_bool
        | cint i => exact onCon_e h fun v k pos h => eq_e h n_int
        | cstr i => exact an_e h fun h1 h => onCon_e h fun v k pos h => eq_e h (n_str (of_decide_eq_true h1))
        | loc x => exact onName_e h fun y pos h => eq_e h (n_loc B.ok)
        | frz ce => exact n_frz IHE h
        | tup ces => exact an_e h fun h1 h => onTup_e h fun es k pos h => n_tup IHE h (of_decide_eq_true h1)
        | lst mt ces => exact an_e h fun h1 h => onLst_e h fun es pos h => n_lst IHE h (of_decide_eq_true h1)
        | edict => exact onDict_e h fun ks es pos h => an_e h fun h1 h2 => nil_e h1 (nil_e h2 n_edict)
        | bin op a b => exact onBin_e h fun ea op' eb pos h => an_e h fun h1 h => an_e h fun h2 h3 => eq_e h1 (n_bin IHE h2 h3)
        | neg a => exact onUn_e h fun op ea pos h => an_e h fun h1 h => eq_e h1 (n_neg IHE h)
        | not a => exact onUn_e h fun op ea pos h => an_e h fun h1 h => eq_e h1 (n_not IHE h)
        | cmp op a b => exact onCmp_e h fun ea ops es pos h => an_e h fun h1 h => an_e h fun h2 h => onOp1_e h1 fun op' h1 => eq_e h1 (on1_e h fun eb h => an_e h fun h3 h4 => n_cmp IHE rm h2 h3 h4)
        | boo ia a b => exact onBoo_e h fun op' es pos h => an_e h fun h1 h => eq_e h1 (on2_e h fun ea eb h => an_e h fun h2 h3 => n_boo IHE h2 h3)
        | ite t a b => exact onIf_e h fun et ea eb pos h => an_e h fun h1 h => an_e h fun h2 h3 => n_ite IHE IHB h1 h2 h3
        | call f ces => exact onFn_e h fun y p1 es pos h => an_e h fun h1 h => an_e h fun h2 h => an_e h fun h3 h4 => eq_e h1 (n_call IHE B.ok B.gl okC rm h4 (ne_e h2) (isG_of h3))
        | blt b ces => exact onFn_e h fun y p1 es pos h => an_e h fun h1 h => an_e h fun h2 h3 => eq_e h1 (n_blt IHE B.ok B.gl rm h3 (isG_of h2))
        | tupzip a b => exact onFn_e h fun y p1 es pos h => an_e h fun h1 h => an_e h fun h2 h => eq_e h1 (on1_e h fun e2 h => onFn_e h fun y2 p2 es2 pos2 h => an_e h fun h3 h => an_e h fun h4 h => eq_e h3 (on2_e h fun ea eb h => B.sp.tupzip rm IHE h h2 h4))
        | sortset a => exact onFn_e h fun y p1 es pos h => an_e h fun h1 h => an_e h fun h2 h => eq_e h1 (on1_e h fun e2 h => onFn_e h fun y2 p2 es2 pos2 h => an_e h fun h3 h => an_e h fun h4 h => eq_e h3 (on1_e h fun ea h => B.sp.sortset rm IHE h h2 h4))
        | meth o m ces => exact onM_e h fun eo y ap es pos h1 h2 h => an_e h fun h3 h => an_e h fun h4 h => an_e h fun h5 h6 => eq_e h3 (n_meth IHE B.cls B.ok rfl okC rm h4 h5 h1 h2 (of_decide_eq_true h6))
        | app o e1 => exact onM_e h fun eo y ap es pos h1 h2 h => an_e h fun h3 h => an_e h fun h4 h => eq_e h3 (on1_e h fun ee h => an_e h fun h5 h6 => n_app IHE h4 h5 h6 h1 h2)
        | ext o e1 => exact onM_e h fun eo y ap es pos h1 h2 h => an_e h fun h3 h => an_e h fun h4 h => eq_e h3 (on1_e h fun ee h => an_e h fun h5 h6 => n_ext IHE h4 h5 h6 h1 h2)
        | popl o => exact onM_e h fun eo y ap es pos h1 h2 h => an_e h fun h3 h => an_e h fun h4 h5 => eq_e h3 (nil_e h5 (n_popl IHE h4 h1 h2))
        | new q ces => exact onFn_e h fun y p1 es pos h => an_e h fun h1 h => an_e h fun h2 h => an_e h fun h3 h4 => eq_e h1 (n_new IHE B.cls B.gl B.ok rfl okC (fun rest => room_under hh hd hu) h4 (ne_e h2) (isG_of h3))
        | attr o f => exact onAttr_e h fun eo y pos h => an_e h fun h1 h => an_e h fun h2 h => an_e h fun h3 h4 => eq_e h1 (n_attr IHE B.cls B.ok h3 h4 (List.contains_iff_mem.mp h2))
        | idx o i => exact onSub_e h fun eo ei pos h => an_e h fun h1 h2 => n_idx IHE h1 h2
        | slc o lo hi => exact onSub_e h fun eo ei pos h => an_e h fun h1 h => onSlc_e h fun el eh st p h => an_e h fun h2 h => an_e h fun h3 h4 => none_e h4 (n_slc IHE h1 h2 h3)
        | comp mt fv elt gens => exact onComp_e h fun e gs sc2 pos h => n_comp (K := chkE c.toNm flds n) (KB := chkB c.toNm flds n) (fun sc X F env ce e h => ihE n sc X F env ce e h) (fun sc X F env ce e h => ihB n sc X F env ce e h) B.ok hh h
    · cases n with
      | zero => exact (nomatch (show false = true from h))
      | succ n =>
        have IHE : ∀ ce e, chkE c.toNm flds n sc ce e = true → OkE c A sc X F env e (fun l h => (evD c.P C d).E l h ce) := fun ce e h => ihE n sc X F env ce e h
        have IHB : ∀ ce e, chkB c.toNm flds n sc ce e = true → OkB c A sc X F env e (fun l h => (evD c.P C d).B l h ce) := fun ce e h => ihB n sc X F env ce e h
        show OkB c A sc X F env e (fun l h => stepB (evD c.P C d) l h ce)
        have PL : plainCE ce = true → OkB c A sc X F env e (fun l h => stepB (evD c.P C d) l h ce) := fun hp => an_e (chkB_plain hp h) fun h1 h2 => b_plain IHE h2 h1 _ fun l hq => stepB_plain hp
        cases ce with
        | not a => exact onUn_e h fun op ea pos h => an_e h fun h1 h => eq_e h1 (b_not IHB h)
        | boo ia a b => exact onBoo_e h fun op' es pos h => an_e h fun h1 h => eq_e h1 (on2_e h fun ea eb h => an_e h fun h2 h3 => b_boo IHB h2 h3)
        | ite t a b => exact onIf_e h fun et ea eb pos h => an_e h fun h1 h => an_e h fun h2 h3 => b_ite IHB h1 h2 h3
        | _ => exact PL rfl
end Mine.Internal
namespace Mine.Internal
open PySem PySem.W PyProof.Rows
variable {c : Cx} {A : Around} {sc : Sc} {O O1 X X' F : Addr → Prop} {env : Env} {ad ad1 : AdT} {hp hp1 hp' : Hp} {loc loc' loc2 : Loc} {s s1 : Shared} {cl : Nat} {flds : List Nat}
noncomputable def EnumOk (c : Cx) : Prop :=
  ∀ {A : Around} {cl : Nat} {sc : Sc} {X F env} {P C} {r : EV} {K : CE → Expr → Bool} {KS : CS → Stmt → Bool} {ts ce te ie body eb p p2 pos}, Room A cl → (∀ X ce e, K ce e = true → OkE c A sc X F env e (fun l h => r.E l h ce)) →
    (∀ X cs st, KS cs st = true → OkS c A sc X F env st (fun l h => r.S l h cs)) → chkL K [ce] [ie] = true → isG sc "enumerate" = true → chkT (okVar c.toNm sc) (.tup ts) te = true → chkSL KS body eb = true →
    OkS c A sc X F env (.For te (.Call (.Name "enumerate" p) [ie] [] p2) eb [] pos) (fun l h => stepS P C r l h (.forEnum (.tup ts) ce body))
set_option maxHeartbeats 4000000 in
theorem sound_S (B : Base c flds) (en : EnumOk c) (hh : A.handled = none) (hd : A.depth + 4 * cl + 2 ≤ 900) (hu : A.units + 10 * cl + 4 ≤ 9000) {C : CallT} (okC : OkC c cl C) :
    ∀ d n sc X F env cs st, chkS c.toNm flds n sc cs st = true → OkS c A sc X F env st (fun l h => (evD c.P C d).S l h cs) := by
  have rm : Room A cl := ⟨hh, by lia, by lia⟩
  have EB := sound_E B hh hd hu okC
  intro d
  induction d with
  | zero => exact fun n sc X F env cs st h O ad loc hp s out loc' hp' Q S ev k => (by exact nS ev)
  | succ d ih =>
    intro n sc X F env cs st h
    cases n with
    | zero => exact (nB (show false = true from h))
    | succ n =>
      have IHE : ∀ X ce e, chkE c.toNm flds n sc ce e = true → OkE c A sc X F env e (fun l h => (evD c.P C d).E l h ce) := fun X ce e h => (EB d).1 n sc X F env ce e h
      have IHB : ∀ X ce e, chkB c.toNm flds n sc ce e = true → OkB c A sc X F env e (fun l h => (evD c.P C d).B l h ce) := fun X ce e h => (EB d).2 n sc X F env ce e h
      have IHS : ∀ X cs st, chkS c.toNm flds n sc cs st = true → OkS c A sc X F env st (fun l h => (evD c.P C d).S l h cs) := fun X cs st h => ih n sc X F env cs st h
      show OkS c A sc X F env st (fun l h => stepS c.P C (evD c.P C d) l h cs)
      cases cs with
      | ex ce => exact onEx_e h fun e pos h => an_e h fun h1 h2 => s_ex IHE h1 (not_e h2)
      | asg t ce =>
        refine onAsg_e h fun ts e pos h => on1_e h fun te h => ?_
        induction t with
        | name x =>
          refine onName_e h fun y p h => an_e h fun h1 h => ?_
          have PL : ∀ ce, (chkE c.toNm flds n sc ce e && !isComp e) = true → OkS c A sc X F env (.Assign [.Name y p] e pos) (fun l h => stepS c.P C (evD c.P C d) l h (.asg (.name x) ce)) := fun ce h => an_e h fun h2 h3 => s_asg IHE B.ok h2 (not_e h3) h1
          cases ce with
          | comp mt fv elt gens =>
            refine onComp_e h fun ee gs sc2 pos2 h => ?_
            induction d with
            | zero => exact fun O ad loc hp s out loc' hp' Q S ev k => obn_e ev fun _ _ e _ => nS e
            | succ d => exact s_asgComp (K := chkE c.toNm flds n) (KB := chkB c.toNm flds n) (r2 := evD c.P C d) (fun sc X F env ce e h => (EB d).1 n sc X F env ce e h) (fun sc X F env ce e h => (EB d).2 n sc X F env ce e h) B.ok hh h (fun l h => rfl) h1
          | _ => exact PL _ h
        | tup ts => exact onTup_e h fun es k p h => an_e h fun h1 h => an_e h fun h2 h => an_e h fun h3 h4 => s_asgTup IHE B.ok hh h1 (not_e h2) h3 h4
        | attr o f => exact onAttr_e h fun eo y p h => an_e h fun h1 h => an_e h fun h2 h => an_e h fun h3 h4 => eq_e h1 (s_asgAttr IHE B.cls B.ok h3 h4 (List.contains_iff_mem.mp h2))
        | idx o i => exact onSub_e h fun eo ei p h => an_e h fun h1 h => an_e h fun h2 h3 => s_asgIdx IHE h1 h2 h3
      | asgT xs ces => exact onAsg_e h fun ts e pos h => on1_e h fun te h => onTup_e h fun es k p h => onTup_e h fun vs k2 p2 h => an_e h fun h1 h => an_e h fun h2 h => an_e h fun h3 h => an_e h fun h4 h5 => s_asgT IHE B.ok hh h1 (of_decide_eq_true h2) h3 (of_decide_eq_true h4) (not_e h5)
      | iff t a b => exact onIff_e h fun et ea eb pos h => an_e h fun h1 h => an_e h fun h2 h3 => s_iff IHB IHS h1 h2 h3
      | whil t body => exact onWhile_e h fun et eb z pos h => an_e h fun h1 h => an_e h fun h2 h3 => nil_e h1 (s_whil IHB IHS h2 h3)
      | forEnum t ce body =>
        refine onFor_e h fun te ie eb z pos h => an_e h fun h1 h => nil_e h1 ?_
        cases t with
        | tup ts => exact onFn_e h fun y p1 es p2 h => an_e h fun h2 h => an_e h fun h3 h => eq_e h2 (on1_e h fun ie h => an_e h fun h4 h => an_e h fun h5 h6 => en rm IHE IHS h4 h3 h5 h6)
        | name _ => exact nB h
      | for_ t ce body => exact onFor_e h fun te ie eb z pos h => an_e h fun h1 h => an_e h fun h2 h => an_e h fun h3 h => an_e h fun h4 h5 => nil_e h1 (s_for IHE IHS B.ok hh h2 h3 h4 h5)
      | ret o =>
        induction o with
        | none => exact onRet_e h fun o pos h => none_e h s_ret0
        | some ce => exact onRet_e h fun o pos h => onSome_e h fun e h => s_ret IHE h
theorem sound_body (B : Base c flds) (en : EnumOk c) {C : CallT} (okC : OkC c cl C) {n : Nat} {names : Sc} {fd : FnC} {body : List Stmt} (h : chkSL (chkS c.toNm flds n names) fd.body body = true) : OkBody c cl names fd body C :=
  fun A X F env hh hd hu => n_block (fun X cs st h => sound_S B en hh hd hu okC bodyDepth n names X F env cs st h) h X
structure FnOK (c : Cx) (flds : List Nat) (f : Nat) (fd : FnC) : Prop where
  ex : ∃ Fd as kwd body, FnRel c f fd Fd as kwd body ∧ ∃ n, chkSL (chkS c.toNm flds n Fd.scope.names) fd.body body = true
noncomputable def SupOk (c : Cx) (f : Nat) (fd : FnC) : Prop := ∀ cl, OkC c cl (callN c.P cl) → ∀ (A : Around), Room A (cl + 1) → ∀ (X O : Addr → Prop) (ad : AdT) (args : List RV) (hp : Hp) (s : Shared) (vs : List Value) (rv : RV) (hp' : Hp) (R : Result → Shared → Prop),
    SR c s O X ad hp → RepRVs s.heap (U O X) ad args vs → callN c.P (cl + 1) f args hp = some (rv, hp') → PE c X s O ad rv hp' (fun v s' => R (.ok (.ret v)) s') →
      codeAny (model c.prog c.w) A (.call (.ref (c.fA f)) ⟨vs, []⟩) R s
theorem sound_C (B : Base c flds) (en : EnumOk c) (fns : ∀ f fd, c.P.fn[f]? = some fd → (fd.sup = none ∧ FnOK c flds f fd) ∨ SupOk c f fd) : ∀ cl, OkC c cl (callN c.P cl)
  | 0 => fun A rm X O ad f args hp s vs rv hp' R H r ev k => by exact nS ev
  | cl + 1 => fun A rm X O ad f args hp s vs rv hp' R H r ev k => by
    have okC := sound_C B en fns cl
    induction hf : c.P.fn[f]? with
    | none => exact vS_e ev fun fd e _ => nS (hf.symm.trans e)
    | some fd =>
      rcases fns f fd hf with ⟨hs, ⟨Fd, as, kwd, body, fr, n, hb⟩⟩ | sp
      · exact fn_body B.ok fr hs rm (sound_body B en okC hb) hf H r ev k
      · exact sp cl okC A rm X O ad args hp s vs rv hp' R H r ev k
end Mine.Internal
namespace Mine.Internal
open PySem PySem.W PyProof.Rows
open AutoSeq1 (wpAny_loadPart')
section
variable {prog : Program} {w : World} {A : Around} {E : Value → Shared → Prop} {s : Shared}
theorem wpAny_pure_any {α : Type} {a : α} {Q : α → Shared → Prop} (h : ∀ b, Q b s) : wpAny (model prog w) A (pure a) Q E s := wpAny_pure (h a)
theorem tnext_item {it t : Addr} {i : Nat} {items : Array Value} {x : Value} {Q : Value → Shared → Prop} (hit : s.heap.IsTupleIter it t i) (ht : s.heap.IsTuple t items) (hx : items[i]? = some x)
    (hQ : ∀ h', h'.IsTupleIter it t (i + 1) → Heap.SameBut it s.heap h' → Q x { s with heap := h' }) : wpAny (model prog w) A (Builtin.SmallTypes.nextOf (.ref it)) Q E s := by
  obtain ⟨o, ho, hc, hd⟩ := id hit
  obtain ⟨ol, hol, _, nl, hdl⟩ := ht
  unfold Builtin.SmallTypes.nextOf
  refine wpAny_bind (wpAny_callSpecial?_slot (name := Str.ofString "__next__") hit.typeIs PySem.F.slot_tuple_iterator_next
    (wpAny_call_entry PySem.F.slot_tuple_iterator_next hit.typeIs PySem.F.entry_tuple_iterator_next ?_ (PySem.F.args_tuple_iterator_next_1 _)))
  show wpAny _ _ (field (.ref it) 0 >>= _) _ _ s
  refine wpAny_bind (wpAny_field ho hd (x := .ref t) rfl ?_)
  show wpAny _ _ (if (Value.ref t == Value.none) = true then _ else _) _ _ s
  rw [if_neg (show ¬ ((Value.ref t == Value.none) = true) from Bool.false_ne_true)]
  show wpAny _ _ (field (.ref it) 1 >>= _) _ _ s
  refine wpAny_bind (wpAny_field ho hd (x := .int i 0) rfl ?_)
  show wpAny _ _ (seqItems? (.ref t) >>= _) _ _ s
  refine wpAny_bind (wpAny_seqItems hol hdl ?_)
  simp only [Int.toNat_natCast, hx]
  refine wpAny_bind (wpAny_setField ho hd (by simp) (wpAny_pure ⟨x, rfl, wpAny_pure (hQ _ ?_ (Heap.SameBut.update ..))⟩))
  exact ⟨_, Heap.get?_update_self _ ho (Obj.isFreed_of_fields (Obj.data_mapFields hd _)), (Obj.cls_mapFields ..).trans hc, by
    rw [Obj.data_mapFields hd]; simp [rawInt]⟩
theorem tnext_end {it t : Addr} {i : Nat} {items : Array Value} {Q : Value → Shared → Prop} (hh : A.handled = none) (hit : s.heap.IsTupleIter it t i) (ht : s.heap.IsTuple t items) (hx : items[i]? = none)
    (hE : ∀ h' e, Heap.ExtBut it s.heap h' → (∃ o, h'.get? e = some o ∧ o.cls = .type "StopIteration") → E (.ref e) { s with heap := h' }) : wpAny (model prog w) A (Builtin.SmallTypes.nextOf (.ref it)) Q E s := by
  obtain ⟨o, ho, hc, hd⟩ := id hit
  obtain ⟨ol, hol, _, nl, hdl⟩ := ht
  unfold Builtin.SmallTypes.nextOf
  refine wpAny_bind (wpAny_callSpecial?_slot (name := Str.ofString "__next__") hit.typeIs PySem.F.slot_tuple_iterator_next
    (wpAny_call_entry PySem.F.slot_tuple_iterator_next hit.typeIs PySem.F.entry_tuple_iterator_next ?_ (PySem.F.args_tuple_iterator_next_1 _)))
  show wpAny _ _ (field (.ref it) 0 >>= _) _ _ s
  refine wpAny_bind (wpAny_field ho hd (x := .ref t) rfl ?_)
  show wpAny _ _ (if (Value.ref t == Value.none) = true then _ else _) _ _ s
  rw [if_neg (show ¬ ((Value.ref t == Value.none) = true) from Bool.false_ne_true)]
  show wpAny _ _ (field (.ref it) 1 >>= _) _ _ s
  refine wpAny_bind (wpAny_field ho hd (x := .int i 0) rfl ?_)
  show wpAny _ _ (seqItems? (.ref t) >>= _) _ _ s
  refine wpAny_bind (wpAny_seqItems hol hdl ?_)
  simp only [Int.toNat_natCast, hx]
  refine wpAny_bind (wpAny_rule (wpAny_bind (wpAny_setField ho hd (by simp) ?_)))
  show wpAny _ _ (newExc (.type "StopIteration") [] >>= _) _ _ _
  refine wpAny_bind ?_
  simp only [newExc, newTuple]
  refine wpAny_bind (wpAny_newObj_type ?_ (by size_fits))
  refine wpAny_bind (m := firstArgMember _ _) (wpAny_of_eq (a := Value.none) (by first | rfl | (simp only [firstArgMember]; rfl)) ?_)
  refine wpAny_newObj_type ?_ (by size_fits)
  delta raiseNew
  refine wpAny_bind (wpAny_handled ?_)
  first | rw [show A.in1.handled = none from hh] | rw [hh]
  refine wpAny_bind (wpAny_pure (wpAny_throw ?_))
  exact hE _ _ (((Heap.SameBut.update ..).extBut.push _).push _) ⟨_, Heap.get?_push_size _ rfl, rfl⟩
theorem enum_new_tup (l : Addr) (items : Array Value) (n : Nat) :
    Meets (Builtin.«enumerate.__new__» ⟨[.type "enumerate", .ref l], []⟩) (fun _ R s => s.heap.get? l = some { cls := .type "tuple", dict := none, data := .seq items n, slots := #[] } ∧
      R (.ok (.ret (.ref (s.heap.push { cls := .type "tuple_iterator", data := .fields #[.ref l, .int 0 0] }).objs.size)))
        { s with heap := (s.heap.push { cls := .type "tuple_iterator", data := .fields #[.ref l, .int 0 0] }).push { cls := .type "enumerate", data := .fields #[.none, .bool false, .ref s.heap.objs.size, rawInt 0, .none, .none] } }) :=
  .of_wp fun prog w A R s h => by
    obtain ⟨hp, g, d, tk, os⟩ := s; obtain ⟨hl, h⟩ := h
    have hsub := sub_enumerate
    have hL : Heap.IsTuple (Shared.heap ⟨hp, g, d, tk, os⟩) l items := ⟨_, hl, rfl, n, rfl⟩
    wp_walk using wpAny_loadPart' hl
    refine wpAny_stack_any fun st => wpAny_pure_any fun b => ?_
    rcases b with ⟨⟩
    · wp_walk using wpAny_loadPart' hl, wpAny_pyIter_tuple hL
      exact ⟨_, rfl, h⟩
    · wp_walk using wpAny_loadPart' hl, wpAny_pyIter_tuple hL
      exact ⟨_, rfl, h⟩
theorem enum_next_tup {e it l : Addr} {i : Nat} {items : Array Value} {x old : Value} {Q : Option Value → Shared → Prop}
    (he : IsEnum s.heap e it i old) (hit : s.heap.IsTupleIter it l i) (hl : s.heap.IsTuple l items) (hx : items[i]? = some x) (hne : e ≠ it)
    (hQ : ∀ h', IsEnumOut h' e it ((i : Int) + 1) x s.heap.objs.size → h'.IsTupleIter it l (i + 1) →
      h'.get? s.heap.objs.size = some { cls := .type "tuple", data := .seq #[.int i s.toks, x] } →
      (∀ b o, b ≠ e → b ≠ it → s.heap.get? b = some o → h'.get? b = some o) → Q (some (.ref s.heap.objs.size)) { s with heap := h', toks := s.toks + 1 }) :
    wpAny (model prog w) A (pyNext (.ref e)) Q E s := by
  have hT : s.TypeIs (.ref e) "enumerate" := ⟨_, he, rfl⟩
  unfold pyNext
  refine wpAny_bind (wpAny_attempt (wpAny_callSpecial?_slot (name := Str.ofString "__next__") hT PySem.F.slot_enumerate_next
    (wpAny_call_entry PySem.F.slot_enumerate_next hT PySem.F.entry_enumerate_next ?_ (PySem.F.args_enumerate_next_1 _))))
  obtain ⟨hp, g, d, tk, os⟩ := s
  show wpAny _ _ (field (.ref e) 2 >>= _) _ _ _
  refine wpAny_bind (wpAny_field he rfl (x := .ref it) rfl ?_)
  refine wpAny_bind (tnext_item hit hl hx fun h₁ hit₁ hs₁ => ?_)
  replace hs₁ : Heap.SameBut it hp h₁ := hs₁
  have he₁ : IsEnum h₁ e it i old := (hs₁.2 e hne).trans he
  show wpAny _ _ (field (.ref e) 3 >>= _) _ _ ⟨h₁, g, d, tk, os⟩
  refine wpAny_bind (wpAny_field he₁ rfl (x := rawInt i) rfl ?_)
  show wpAny _ _ (field (.ref e) 4 >>= _) _ _ ⟨h₁, g, d, tk, os⟩
  refine wpAny_bind (wpAny_field he₁ rfl (x := .none) rfl ?_)
  show wpAny _ _ (mkInt i >>= _) _ _ ⟨h₁, g, d, tk, os⟩
  refine wpAny_bind (wpAny_mkInt ?_)
  show wpAny _ _ (setField (.ref e) 3 (rawInt ((i : Int) + 1)) >>= _) _ _ ⟨h₁, g, d, tk + 1, os⟩
  refine wpAny_bind (wpAny_setField_rec he₁ (by simp) fun h₂ he₂ hs₂ => ?_)
  replace hs₂ : Heap.SameBut e h₁ h₂ := hs₂
  replace he₂ : IsEnum h₂ e it ((i : Int) + 1) old := he₂
  show wpAny _ _ (setField (.ref e) 4 .none >>= _) _ _ ⟨h₂, g, d, tk + 1, os⟩
  refine wpAny_bind (wpAny_setField_rec he₂ (by simp) fun h₃ he₃ hs₃ => ?_)
  replace hs₃ : Heap.SameBut e h₂ h₃ := hs₃
  replace he₃ : IsEnum h₃ e it ((i : Int) + 1) old := he₃
  show wpAny _ _ (newTuple [.int i tk, x] >>= _) _ _ ⟨h₃, g, d, tk + 1, os⟩
  refine wpAny_bind (wpAny_newTuple ?_)
  have he₄ : IsEnum (h₃.push { cls := .type "tuple", data := .seq #[.int i tk, x] }) e it ((i : Int) + 1) old := Heap.get?_push_of_some _ he₃
  generalize hh₄ : h₃.push { cls := .type "tuple", data := .seq #[.int i tk, x] } = h₄ at he₄
  have hsz : h₃.objs.size = hp.objs.size := by rw [hs₃.1, hs₂.1, hs₁.1]
  have hel : e < hp.objs.size := Heap.lt_size he
  have ht₄ : h₄.get? hp.objs.size = some { cls := .type "tuple", data := .seq #[.int i tk, x] } := by rw [← hh₄, ← hsz]; exact Heap.get?_push_size _ rfl
  have hk₄ : ∀ b o, b ≠ e → b ≠ it → hp.get? b = some o → h₄.get? b = some o := fun b o hbe hbi hb => by
    rw [← hh₄]; exact Heap.get?_push_of_some _ (hs₃.extBut b o hbe (hs₂.extBut b o hbe (hs₁.extBut b o hbi hb)))
  have hit₄ : h₄.IsTupleIter it l (i + 1) := by
    rw [← hh₄]
    obtain ⟨o, ho, r⟩ := hit₁
    exact ⟨o, Heap.get?_push_of_some _ (hs₃.extBut _ _ (Ne.symm hne) (hs₂.extBut _ _ (Ne.symm hne) ho)), r⟩
  show wpAny _ _ (Builtin.SmallTypes.ownedTupleIsFree (.ref e) >>= _) _ _ ⟨h₄, g, d, tk + 1, os⟩
  rw [hsz]
  refine wpAny_bind ?_
  unfold Builtin.SmallTypes.ownedTupleIsFree
  refine wpAny_bind (wpAny_field he₄ rfl (x := .none) rfl (wpAny_pure ?_))
  simp only [if_true]
  refine wpAny_bind (wpAny_rule ?_)
  refine wpAny_bind (wpAny_field he₄ rfl (x := old) rfl ?_)
  refine wpAny_bind (wpAny_setField_rec he₄ (by simp) fun h₅ he₅ hs₅ => ?_)
  replace hs₅ : Heap.SameBut e h₄ h₅ := hs₅
  replace he₅ : IsEnum h₅ e it ((i : Int) + 1) x := he₅
  show wpAny _ _ (Builtin.SmallTypes.ownedTupleHandOut (.ref e) (.ref hp.objs.size) >>= _) _ _ ⟨h₅, g, d, tk + 1, os⟩
  refine wpAny_bind ?_
  unfold Builtin.SmallTypes.ownedTupleHandOut
  refine wpAny_bind (wpAny_setField_rec he₅ (by simp) fun h₆ he₆ hs₆ => ?_)
  replace hs₆ : Heap.SameBut e h₅ h₆ := hs₆
  replace he₆ : IsEnumOut h₆ e it ((i : Int) + 1) x hp.objs.size := he₆
  refine wpAny_setField_rec he₆ (by simp) fun h₇ he₇ hs₇ => ?_
  replace hs₇ : Heap.SameBut e h₆ h₇ := hs₇
  replace he₇ : IsEnumOut h₇ e it ((i : Int) + 1) x hp.objs.size := he₇
  have up : ∀ b o, b ≠ e → h₄.get? b = some o → h₇.get? b = some o := fun b o nb q => hs₇.extBut b o nb (hs₆.extBut b o nb (hs₅.extBut b o nb q))
  refine wpAny_bind (wpAny_letGo (wpAny_pure ⟨_, rfl, wpAny_pure (hQ h₇ he₇ ?_ ?_ ?_)⟩))
  · obtain ⟨o, ho, r⟩ := hit₄; exact ⟨o, up _ _ (Ne.symm hne) ho, r⟩
  · exact up _ _ (Nat.ne_of_gt hel) ht₄
  · exact fun b o hbe hbi hb => up b o hbe (hk₄ b o hbe hbi hb)
theorem enum_end_tup {e it l : Addr} {i : Nat} {items : Array Value} {old : Value} {Q : Option Value → Shared → Prop} (hh : A.handled = none)
    (he : IsEnum s.heap e it i old) (hit : s.heap.IsTupleIter it l i) (hl : s.heap.IsTuple l items) (hx : items[i]? = none)
    (hQ : ∀ h', Heap.ExtBut it s.heap h' → Q none { s with heap := h' }) : wpAny (model prog w) A (pyNext (.ref e)) Q E s := by
  have hT : s.TypeIs (.ref e) "enumerate" := ⟨_, he, rfl⟩
  unfold pyNext
  refine wpAny_bind (wpAny_attempt (wpAny_callSpecial?_slot (name := Str.ofString "__next__") hT PySem.F.slot_enumerate_next
    (wpAny_call_entry PySem.F.slot_enumerate_next hT PySem.F.entry_enumerate_next ?_ (PySem.F.args_enumerate_next_1 _))))
  show wpAny _ _ (field (.ref e) 2 >>= _) _ _ _
  refine wpAny_bind (wpAny_field he rfl (x := .ref it) rfl ?_)
  refine wpAny_bind (tnext_end hh hit hl hx fun h' x he' hx' => ?_)
  obtain ⟨o, ho, hc⟩ := hx'
  refine wpAny_bind (wpAny_isInstance (T := "StopIteration") (b := true) ⟨o, ho, hc⟩ isSubtype_stop ?_)
  exact wpAny_pure (hQ _ he')
end
end Mine.Internal
namespace Mine.Internal
open PySem PySem.W PyProof.Rows
variable {c : Cx} {A : Around} {sc : Sc} {O O1 X X' F : Addr → Prop} {env : Env} {ad ad1 : AdT} {hp hp1 hp' : Hp} {loc loc' loc2 : Loc} {s s1 : Shared} {cl : Nat} {flds : List Nat}
theorem enumFrom_cons {i : Nat} {x : V} {r : List V} : enumFrom i (x :: r) = .tup [.int i, x] :: enumFrom (i + 1) r := rfl
theorem chkT_tup {f : Nat → Str → Bool} {ts : List CT} {e : Expr} (h : chkT f (.tup ts) e = true) : ∃ es k p, e = .Tuple es k p :=
  onTup_e (show onTup e (chkTs f ts) = true from h) fun es k p _ => ⟨es, k, p, rfl⟩
theorem enum_core {r : EV} {KS : CS → Stmt → Bool} (IHS : ∀ X cs st, KS cs st = true → OkS c A sc X F env st (fun l h => r.S l h cs)) {ts : List CT} {te : Expr} {body : List CS} {eb : List Stmt} (ok : c.OK) (hh : A.handled = none) (hT : chkT (okVar c.toNm sc) (.tup ts) te = true) (hb : chkSL KS body eb = true)
    {vs : List V} {its : List Value} {m : Nat} {a : Addr} {out : Out} {Q : Flow → Shared → Prop} (S1 : St c O X F ad hp loc sc env s) (ga : s.heap.get? a = some (tupObj its m)) (na : ¬ U O X a) (rl : RepL s.heap (U O X) vs its)
    (ev : forGo (forB r (.tup ts) body) (enumFrom 0 vs) loc hp = some (out, loc', hp')) (k : PS c X F sc env s O ad out loc' hp' Q) :
    codeAny (model c.prog c.w) A (.forLoop te (.ref (s.heap.objs.size + 1)) eb [] env) (fun r s' => match r with | .ok f => Q f s' | .error e => cameBackBy (model c.prog c.w) A env NoE e s')
      { s with heap := (s.heap.push { cls := .type "tuple_iterator", data := .fields #[.ref a, .int 0 0] }).push { cls := .type "enumerate", data := .fields #[.none, .bool false, .ref s.heap.objs.size, rawInt 0, .none, .none] } } := by
  have hz : (s.heap.push { cls := .type "tuple_iterator", data := .fields #[.ref a, .int 0 0] }).objs.size = s.heap.objs.size + 1 := Heap.size_push ..
  generalize hH : (s.heap.push { cls := .type "tuple_iterator", data := .fields #[.ref a, .int 0 0] }).push { cls := .type "enumerate", data := .fields #[.none, .bool false, .ref s.heap.objs.size, rawInt 0, .none, .none] } = H2
  have kp0 : Kp s.heap H2 := by rw [← hH]; exact (Kp.push _ _).trans (Kp.push _ _)
  have he0 : IsEnum H2 (s.heap.objs.size + 1) s.heap.objs.size ((0 : Nat) : Int) .none := by
    rw [← hH, ← hz]; exact Heap.get?_push_size _ rfl
  have hi0 : H2.IsTupleIter s.heap.objs.size a 0 := by
    rw [← hH]; exact ⟨_, Heap.get?_push_of_some _ (Heap.get?_push_size _ rfl), rfl, rfl⟩
  have nI := size_none s.heap
  have nE : s.heap.get? (s.heap.objs.size + 1) = none := Heap.get?_none_of_le (Nat.le_succ _)
  have hne : s.heap.objs.size + 1 ≠ s.heap.objs.size := Nat.succ_ne_self _
  generalize s.heap.objs.size + 1 = e at *
  generalize s.heap.objs.size = it at *
  have hX0 : ∀ b, (fun b => (X b ∨ b = it) ∨ b = e) b → X b ∨ s.heap.get? b = none := fun b q => by
    rcases q with (q | q) | q
    · exact .inl q
    · exact .inr (q ▸ nI)
    · exact .inr (q ▸ nE)
  have S2 := S1.reX (X' := fun b => (X b ∨ b = it) ∨ b = e) (tk := s.toks) kp0 hX0 fun b q => by
    rcases q with (q | q) | q
    · obtain ⟨o, e⟩ := S1.xlive b q; exact ⟨o, kp0 _ _ e⟩
    · obtain ⟨o, ho, _⟩ := hi0; exact q ▸ ⟨o, ho⟩
    · exact q ▸ ⟨_, he0⟩
  have n0I : c.s₀.heap.get? it = none := S1.old nI
  have n0E : c.s₀.heap.get? e = none := S1.old nE
  have nfa := S1.en.notF ga (.inl ⟨_, _, rfl⟩)
  have nua : ¬ U O F a := fun z => z.elim (fun z => na (.inl z)) nfa
  have hlen := rl.length
  refine for_any (FInv c sc (fun b => (X b ∨ b = it) ∨ b = e) F env vs.length (fun i l h => forGo (forB r (.tup ts) body) (enumFrom i (vs.drop i)) l h = some (out, loc', hp')) (fun i h => (∃ old, IsEnum h e it ((i : Nat) : Int) old) ∧ h.IsTupleIter it a i) s O ad) ?_ vs.length
    ⟨0, O, ad, loc, hp, rfl, ev, S2, ⟨⟨_, he0⟩, hi0⟩, Step.stay kp0, .refl _⟩
  intro n s' hI N B kN kS kB kR
  obtain ⟨i, O1, ad1, loc1, hp1, hn, eq, S3, ⟨⟨old, he⟩, hi⟩, t, p⟩ := hI
  have gas := t.keep a _ nua ga
  have hta : s'.heap.IsTuple a its.toArray := isTup_of gas
  by_cases hlt : i < vs.length
  · obtain ⟨y, hy, ry⟩ := rl.get' (List.getElem?_eq_getElem hlt)
    refine enum_next_tup he hi hta (by simpa using hy) hne fun h' he' hi' hT' hk => kS _ _ ?_
    obtain ⟨oi, hoi, _, hdi⟩ := id hi
    obtain ⟨oi', hoi', _, hdi'⟩ := id hi'
    have xt : XTurn c (fun b => (X b ∨ b = it) ∨ b = e) (fun b => (X b ∨ b = it) ∨ b = e) s'.heap h' (fun b => b = it ∨ b = e) :=
      ⟨fun b z => z.elim (fun z => .inl (.inr z)) .inr, fun b z => z, fun b x z q => hk b x (fun w => z (.inr w)) (fun w => z (.inl w)) q, fun b z _ => z.elim (fun z => z ▸ ⟨_, hoi'⟩) fun z => z ▸ ⟨_, he'⟩,
        fun b z => z.elim (fun z => z ▸ ⟨_, hoi, .inr ⟨_, hdi⟩⟩) fun z => z ▸ ⟨_, he, .inr ⟨_, rfl⟩⟩, fun b z => z.elim (fun z => z ▸ n0I) fun z => z ▸ n0E⟩
    have S4 := S3.turnX (tk := s'.toks + 1) xt
    have t4 : Step s.heap (U O F) h' (U O1 F) := t.turnNew (T := fun b => b = it ∨ b = e) xt.k fun b z => z.elim (fun z => z ▸ nI) fun z => z ▸ nE
    obtain ⟨elts, kk, tp, rfl⟩ := chkT_tup hT
    refine wpAny_letOwnedTupleGo_enum he' fun h₂ he₂ hs₂ => ?_
    have nTe : s'.heap.objs.size ≠ e := Nat.ne_of_gt (Heap.lt_size he)
    have hT₂ : h₂.get? s'.heap.objs.size = some (tupObj [.int i s'.toks, y] 0) := hs₂.extBut _ _ nTe hT'
    have xt2 : XTurn c (fun b => (X b ∨ b = it) ∨ b = e) (fun b => (X b ∨ b = it) ∨ b = e) h' h₂ (fun b => b = e) :=
      .one (.inr rfl) (fun _ q => q) (fun b x nb q => hs₂.extBut b x (fun z => nb (List.mem_singleton.mpr z)) q) (fun _ => ⟨_, he₂⟩) ⟨_, he', .inr ⟨_, rfl⟩⟩ n0E
    have S5 := S4.turnX (tk := s'.toks + 1) xt2
    have t5 : Step s.heap (U O F) h₂ (U O1 F) := t4.turnNew (T := fun b => b = e) xt2.k fun b z => z ▸ nE
    have hi₂ : h₂.IsTupleIter it a (i + 1) := by obtain ⟨o, ho, rr⟩ := hi'; exact ⟨o, hs₂.extBut _ _ (Ne.symm hne) ho, rr⟩
    have nOT : ¬ U O1 (fun b => (X b ∨ b = it) ∨ b = e) s'.heap.objs.size := fun z => by
      obtain ⟨o, q⟩ := S3.sr.live _ z
      rw [size_none] at q; injection q
    have rT : Rep h₂ (U O1 (fun b => (X b ∨ b = it) ∨ b = e)) (.tup [.int i, vs[i]]) (.ref s'.heap.objs.size) :=
      ⟨_, _, 0, rfl, nOT, hT₂, by simp, _, _, rfl, ⟨_, rfl⟩, _, _, rfl, Rep.far S1.en t5 hX0 ry, rfl⟩
    rw [List.drop_eq_getElem_cons hlt, enumFrom_cons] at eq
    refine obs_e eq (fun loc2 hp2 e2 eq => vS_e e2 fun l1 b1 e2 => t_bind ok hh (.tup ts) hT b1 S5 rT fun s5 S6 t6 => n_block IHS hb _ _ _ _ _ _ _ _ _ _ S6 e2 fun s6 O6 ad6 fl S7 t7 p7 r7 => ?_)
      fun v hv eq => vS_e eq fun l1 b1 eq => t_bind ok hh (.tup ts) hT b1 S5 rT fun s5 S6 t6 => n_block IHS hb _ _ _ _ _ _ _ _ _ _ S6 eq (PS.of (fun s6 O6 ad6 fl S7 t7 p7 r7 => k.subX S7 (fun b q => .inl (.inl q)) ((t5.trans t6).trans t7) (p.trans p7) r7) (fun q => by cases q.symm.trans hv) kR)
    subst r7
    have keep : ∀ b o, h₂.get? b = some o → (∃ vs, o.data = .fields vs) → (fun b => (X b ∨ b = it) ∨ b = e) b → s6.heap.get? b = some o := fun b o ho hd hx => by
      have nu : ¬ U O1 F b := fun z => z.elim (S5.sr.xin b hx).1 (S5.en.notF ho (.inr hd))
      exact t7.keep b o (t6.not ho nu) (t6.keep b o nu ho)
    obtain ⟨o, ho, hc, hd⟩ := hi₂
    exact kB _ ⟨n - 1, by lia, i + 1, O6, ad6, loc2, hp2, by lia, eq, S7, ⟨⟨y, keep e _ he₂ ⟨_, rfl⟩ (.inr rfl)⟩, o, keep it _ ho ⟨_, hd⟩ (.inl (.inr rfl)), hc, hd⟩, (t5.trans t6).trans t7, p.trans p7⟩
  · have hi' : i = vs.length := by lia
    subst hi'
    rw [List.drop_length] at eq
    cases eq
    refine enum_end_tup hh he hi hta (by rw [List.getElem?_toArray]; exact List.getElem?_eq_none (by lia)) fun h' hk => kN _ ?_
    obtain ⟨oi, hoi, _, hdi⟩ := id hi
    have xt : XTurn c (fun b => (X b ∨ b = it) ∨ b = e) X s'.heap h' (fun b => b = it) :=
      .one (.inl (.inr rfl)) (fun _ q => .inl (.inl q)) (fun b x nb q => hk b x (fun z => nb (List.mem_singleton.mpr z)) q) (fun q => by obtain ⟨o, z⟩ := S1.xlive _ q; rw [nI] at z; injection z) ⟨_, hoi, .inr ⟨_, hdi⟩⟩ n0I
    exact k _ O1 ad1 _ (S3.turnX (tk := s'.toks) xt) (t.turnNew (T := fun b => b = it) xt.k fun b z => z ▸ nI) p rfl
theorem enum_ok (ok : c.OK) (gl : c.Gl) : EnumOk c := fun {A cl sc X F env P C r K KS ts ce te ie body eb p p2 pos} rm IHE IHS h hg hT hb O ad loc hp s out loc' hp' Q S ev k => by
  refine obn_e ev fun v hp1 e1 ev => ?_
  refine wpAny_For ?_ (noSetIter rfl)
  refine Call_Name rfl (load_boot (v := .type "enumerate") ok S.sr S.en (isG_of hg) (gl.blt _ (by decide)) (by decide +kernel) (by decide +kernel) (by decide +kernel) ?_)
  simp only [chkL_c, show chkL K [] [] = true from rfl, Bool.and_eq_true, Bool.and_true] at h
  have hs : ∀ e ∈ [ie], notStar e = true := fun e m => by rw [List.mem_singleton.mp m]; exact h.2
  refine PySem.callWith_type (by rw [starEach_cons h.2]; rfl) (evalArgs_sp hs (args_cons (IHE X ce ie h.1 _ _ _ _ _ _ _ _ S e1 fun v1 s1 O1 ad1 H1 t1 p1 r1 => args_nil ?_) (starEach_cons h.2 _ _)))
  refine rTup_e ev r1 fun vs r1 ev => ?_
  obtain ⟨a, its, m, rfl, na, ga, hl, rl⟩ := r1
  have S1 := S.step H1 t1 p1
  have hz : (s1.heap.push { cls := .type "tuple_iterator", data := .fields #[.ref a, .int 0 0] }).objs.size = s1.heap.objs.size + 1 := Heap.size_push ..
  refine callType_new PySem.F.called_enumerate (by decide) (PySem.F.typeCall_enumerate_1 _) (PySem.F.newCall_enumerate_1 _) (fun obj => PySem.F.args_object_init_2 obj _) PySem.F.entry_enumerate_new
    (enum_new_tup a its.toArray m) ⟨ga, ⟨_, Heap.get?_push_size _ rfl, rfl⟩, ?_⟩
  rw [hz]
  refine wpAny_pyIter_enum (e := s1.heap.objs.size + 1) (it := s1.heap.objs.size) (i := 0) (old := .none) ?_ ?_
  · show (_ : Heap).get? _ = _
    rw [← hz]; exact Heap.get?_push_size _ rfl
  · exact enum_core IHS ok rm.h hT hb S1 ga na rl ev (k.trans (t1.av F) p1)
end Mine.Internal
namespace Mine.Internal
open PySem PySem.W PyProof.Rows
open AutoSeq1 (wpAny_loadPart')
noncomputable abbrev zipObj (f0 f1 : Value) (TI TO : Addr) : Obj := { cls := .type "zip", dict := none, data := .fields #[f0, f1, .bool false, .ref TI, .ref TO], slots := #[] }
structure ZSt (h : Heap) (z TI TO i1 i2 l1 l2 : Addr) (xs ys : Array Value) (k : Nat) : Prop where
  z : (h.get? z = some (zipObj .none (.bool false) TI TO)) ∨ (∃ (T : Addr) (o : Obj) (b : Bool), h.get? z = some (zipObj (rawInt (T : Nat)) (.bool b) TI TO) ∧ h.get? T = some o ∧ T ≠ z ∧ T ≠ TO ∧ T ≠ i1 ∧ T ≠ i2)
  ti : IsPair h TI (.ref i1) (.ref i2)
  to : ∃ a b, IsPair h TO a b
  h1 : h.IsTupleIter i1 l1 k
  h2 : h.IsTupleIter i2 l2 k
  t1 : h.IsTuple l1 xs
  t2 : h.IsTuple l2 ys
section
variable {prog : Program} {w : World} {A : Around} {E : Value → Shared → Prop} {s : Shared}
theorem ifAlive {M : Model} {a : Addr} {Q : Option Obj → Shared → Prop} (h : Q (s.heap.get? a) s) : wpAny M A (loadIfAlive a) Q E s := fun _ _ _ => h
theorem tit_ext {h h' : Heap} {a it l : Addr} {k : Nat} (x : h.IsTupleIter it l k) (e : ∀ b o, b ≠ a → h.get? b = some o → h'.get? b = some o) (n : it ≠ a) : h'.IsTupleIter it l k := by obtain ⟨o, ho, r⟩ := x; exact ⟨o, e _ _ n ho, r⟩
theorem tup_ext {h h' : Heap} {a l : Addr} {xs : Array Value} (x : h.IsTuple l xs) (e : ∀ b o, b ≠ a → h.get? b = some o → h'.get? b = some o) (n : l ≠ a) : h'.IsTuple l xs := by obtain ⟨o, ho, r⟩ := x; exact ⟨o, e _ _ n ho, r⟩
set_option maxHeartbeats 2000000 in
theorem zip_item {z TI TO i1 i2 l1 l2 : Addr} {k : Nat} {xs ys : Array Value} {x y : Value} {Q : Value → Shared → Prop} (D : ZipApart z TI TO i1 i2 l1 l2) (S : ZSt s.heap z TI TO i1 i2 l1 l2 xs ys k) (hx : xs[k]? = some x) (hy : ys[k]? = some y)
    (hQ : ∀ h' T, ZSt h' z TI TO i1 i2 l1 l2 xs ys (k + 1) → s.heap.get? T = none → h'.get? T = some (tupObj [x, y] 0) → (∀ c o, c ≠ z → c ≠ TO → c ≠ i1 → c ≠ i2 → s.heap.get? c = some o → h'.get? c = some o) → Q (.ref T) { s with heap := h' }) :
    wpAny (model prog w) A (Builtin.«zip.__next__» ⟨[.ref z], []⟩) (fun fin s' => ∃ v, fin = .done (.ret v) ∧ Q v s') E s := by
  obtain ⟨hz, hTI, ⟨a, b, hTO⟩, h1, h2, t1, t2⟩ := S
  rcases hz with hz | ⟨T0, o0, b0, hz, hT0, nz, nTO, n1, n2⟩
  · show wpAny _ _ (field (.ref z) 2 >>= _) _ _ _
    refine wpAny_bind (wpAny_field hz rfl (x := .bool false) rfl ?_)
    refine wpAny_bind (wpAny_field hz rfl (x := .ref TI) rfl ?_)
    refine wpAny_bind (wpAny_seqItems hTI rfl ?_)
    refine wpAny_bind ?_
    unfold Builtin.SmallTypes.ownedTupleIsFree
    refine wpAny_bind (wpAny_field hz rfl (x := .none) rfl (wpAny_pure ?_))
    dsimp only [if_true]
    refine wpAny_bind (wpAny_rule ?_)
    refine wpAny_bind (wpAny_field hz rfl (x := .ref TO) rfl ?_)
    refine wpAny_bind (wpAny_setField_rec hz (by simp) fun h₁ hz₁ hs₁ => ?_)
    replace hz₁ : IsZip h₁ z TI TO .ellipsis := hz₁
    refine wpAny_bind ?_
    simp only [List.zipIdx_cons, List.zipIdx_nil, List.forIn_cons, List.forIn_nil]
    refine wpAny_bind (wpAny_bind (wpAny_onRaise ?_))
    refine wpAny_bind (tnext_item (tit_ext h1 hs₁.extBut D.i1z) (tup_ext t1 hs₁.extBut D.l1z) hx fun h₂ h1₂ hs₂ => wpAny_pure ?_)
    have hTO₂ : IsPair h₂ TO a b := hs₂.extBut _ _ D.TOi1 (hs₁.extBut _ _ D.TOz hTO)
    refine wpAny_bind (wpAny_seqItems hTO₂ rfl ?_)
    refine wpAny_bind (wpAny_updateSeq_pair hTO₂ fun h₃ hTO₃ hs₃ => ?_)
    replace hTO₃ : IsPair h₃ TO x b := hTO₃
    refine wpAny_bind (wpAny_letGo (wpAny_pure ?_))
    refine wpAny_bind (wpAny_bind (wpAny_onRaise ?_))
    refine wpAny_bind (tnext_item (tit_ext (tit_ext (tit_ext h2 hs₁.extBut D.i2z) hs₂.extBut D.i12.symm) hs₃.extBut D.TOi2.symm)
      (tup_ext (tup_ext (tup_ext t2 hs₁.extBut D.l2z) hs₂.extBut D.l2i1) hs₃.extBut D.l2TO) hy fun h₄ h2₄ hs₄ => wpAny_pure ?_)
    have hTO₄ : IsPair h₄ TO x b := hs₄.extBut _ _ D.TOi2 hTO₃
    refine wpAny_bind (wpAny_seqItems hTO₄ rfl ?_)
    refine wpAny_bind (wpAny_updateSeq_pair hTO₄ fun h₅ hTO₅ hs₅ => ?_)
    replace hTO₅ : IsPair h₅ TO x y := hTO₅
    refine wpAny_bind (wpAny_letGo (wpAny_pure (wpAny_pure ?_)))
    refine wpAny_bind (wpAny_seqItems hTO₅ rfl ?_)
    refine wpAny_bind (wpAny_newTuple ?_)
    have hsz : h₅.objs.size = s.heap.objs.size := by simp only [hs₅.1, hs₄.1, hs₃.1, hs₂.1, hs₁.1]
    have hz₅ : IsZip h₅ z TI TO .ellipsis := hs₅.extBut _ _ D.TOz.symm (hs₄.extBut _ _ D.i2z.symm (hs₃.extBut _ _ D.TOz.symm (hs₂.extBut _ _ D.i1z.symm hz₁)))
    have hk₅ : ∀ c o, c ≠ z → c ≠ TO → c ≠ i1 → c ≠ i2 → s.heap.get? c = some o → h₅.get? c = some o := fun c o c1 c2 c3 c4 e =>
      hs₅.extBut _ _ c2 (hs₄.extBut _ _ c4 (hs₃.extBut _ _ c2 (hs₂.extBut _ _ c3 (hs₁.extBut _ _ c1 e))))
    have h1₅ : h₅.IsTupleIter i1 l1 (k + 1) := tit_ext (tit_ext (tit_ext h1₂ hs₃.extBut D.TOi1.symm) hs₄.extBut D.i12) hs₅.extBut D.TOi1.symm
    have h2₅ : h₅.IsTupleIter i2 l2 (k + 1) := tit_ext h2₄ hs₅.extBut D.TOi2.symm
    have hzlt : z < h₅.objs.size := Heap.lt_size hz₅
    refine wpAny_bind ?_
    unfold Builtin.SmallTypes.ownedTupleHandOut
    have hz₆ : IsZip (h₅.push { cls := .type "tuple", data := .seq #[x, y] }) z TI TO .ellipsis := Heap.get?_push_of_some _ hz₅
    refine wpAny_bind (wpAny_setField_rec hz₆ (by simp) fun h₇ hz₇ hs₇ => ?_)
    replace hz₇ : IsZip h₇ z TI TO (rawInt h₅.objs.size) := hz₇
    refine wpAny_setField_rec hz₇ (by simp) fun h₈ hz₈ hs₈ => ?_
    replace hz₈ : IsZip h₈ z TI TO (rawInt h₅.objs.size) := hz₈
    have up : ∀ c o, c ≠ z → h₅.get? c = some o → h₈.get? c = some o := fun c o c1 e => hs₈.extBut _ _ c1 (hs₇.extBut _ _ c1 (Heap.get?_push_of_some _ e))
    have hT₈ : IsPair h₈ h₅.objs.size x y := hs₈.extBut _ _ (Nat.ne_of_gt hzlt) (hs₇.extBut _ _ (Nat.ne_of_gt hzlt) (Heap.get?_push_size _ rfl))
    refine wpAny_pure ⟨_, rfl, ?_⟩
    have nn : ∀ {c o}, h₅.get? c = some o → h₅.objs.size ≠ c := fun e => Nat.ne_of_gt (Heap.lt_size e)
    refine hQ h₈ h₅.objs.size ⟨.inr ⟨_, _, false, hz₈, hT₈, nn hz₅, nn hTO₅, ?_, ?_⟩, up _ _ D.TIz (hk₅ _ _ D.TIz D.TITO D.TIi1 D.TIi2 hTI), ⟨_, _, up _ _ D.TOz hTO₅⟩, tit_ext h1₅ up D.i1z, tit_ext h2₅ up D.i2z, ?_, ?_⟩ (by rw [hsz]; exact size_none _) hT₈ fun c o c1 c2 c3 c4 e => up c o c1 (hk₅ c o c1 c2 c3 c4 e)
    · obtain ⟨o, e, _⟩ := h1₅; exact nn e
    · obtain ⟨o, e, _⟩ := h2₅; exact nn e
    · obtain ⟨o, e, r⟩ := t1; exact ⟨o, up _ _ D.l1z (hk₅ _ _ D.l1z D.l1TO D.l1i1 D.l1i2 e), r⟩
    · obtain ⟨o, e, r⟩ := t2; exact ⟨o, up _ _ D.l2z (hk₅ _ _ D.l2z D.l2TO D.l2i1 D.l2i2 e), r⟩
  · show wpAny _ _ (field (.ref z) 2 >>= _) _ _ _
    refine wpAny_bind (wpAny_field hz rfl (x := .bool false) rfl ?_)
    refine wpAny_bind (wpAny_field hz rfl (x := .ref TI) rfl ?_)
    refine wpAny_bind (wpAny_seqItems hTI rfl ?_)
    refine wpAny_bind ?_
    unfold Builtin.SmallTypes.ownedTupleIsFree
    refine wpAny_bind (wpAny_field hz rfl (x := rawInt (T0 : Nat)) rfl ?_)
    refine wpAny_bind (ifAlive ?_)
    simp only [show ((T0 : Nat) : Int).toNat = T0 from rfl, hT0]
    dsimp only [Option.isNone_some, Bool.false_eq_true, if_false]
    refine wpAny_mono (Q := fun a s' => a = false ∧ ∃ hB, s' = { s with heap := hB } ∧ (∀ b o, b ≠ z → s.heap.get? b = some o → hB.get? b = some o) ∧ hB.objs.size = s.heap.objs.size ∧ hB.get? z = some (zipObj (rawInt (T0 : Nat)) (.bool true) TI TO)) ?_ (fun a s' ⟨ha, hB, hs', ext, hzz, hzB⟩ => ?_) (fun _ _ e => e)
    · refine wpAny_bind (wpAny_field hz rfl (x := .bool b0) rfl ?_)
      cases b0 with
      | true => exact wpAny_pure ⟨rfl, s.heap, rfl, fun b o _ e => e, rfl, hz⟩
      | false =>
        exact wpAny_bind (wpAny_setField_rec hz (by simp) fun hB hzB hs => wpAny_pure ⟨rfl, hB, rfl, hs.extBut, hs.1, hzB⟩)
    · subst ha hs'
      simp only [Bool.false_eq_true, if_false]
      refine wpAny_bind ?_
      rw [← Array.forIn_toList]
      simp only [List.forIn_cons, List.forIn_nil]
      refine wpAny_bind (wpAny_bind (wpAny_holding ?_))
      refine wpAny_bind (tnext_item (tit_ext h1 ext D.i1z) (tup_ext t1 ext D.l1z) hx fun h₂ h1₂ hs₂ => wpAny_pure (wpAny_pure ?_))
      refine wpAny_bind (wpAny_bind (wpAny_holding ?_))
      refine wpAny_bind (tnext_item (tit_ext (tit_ext h2 ext D.i2z) hs₂.extBut D.i12.symm) (tup_ext (tup_ext t2 ext D.l2z) hs₂.extBut D.l2i1) hy fun h₄ h2₄ hs₄ => wpAny_pure (wpAny_pure (wpAny_pure ?_)))
      refine wpAny_bind (wpAny_newTuple (hsz := (line_4096 (by decide) : 2 ≤ sizeLine)) (wpAny_pure ⟨_, rfl, ?_⟩))
      have up : ∀ c o, c ≠ z → c ≠ i1 → c ≠ i2 → s.heap.get? c = some o → (h₄.push (tupObj [x, y] 0)).get? c = some o := fun c o c1 c2 c3 e => Heap.get?_push_of_some _ (hs₄.extBut _ _ c3 (hs₂.extBut _ _ c2 (ext _ _ c1 e)))
      have hsz : h₄.objs.size = s.heap.objs.size := by simp only [hs₄.1, hs₂.1]; exact hzz
      have hz4 : (h₄.push (tupObj [x, y] 0)).get? z = some (zipObj (rawInt (T0 : Nat)) (.bool true) TI TO) := Heap.get?_push_of_some _ (hs₄.extBut _ _ D.i2z.symm (hs₂.extBut _ _ D.i1z.symm hzB))
      refine hQ _ h₄.objs.size ⟨.inr ⟨T0, o0, true, hz4, up _ _ nz n1 n2 hT0, nz, nTO, n1, n2⟩, up _ _ D.TIz D.TIi1 D.TIi2 hTI, ⟨a, b, up _ _ D.TOz D.TOi1 D.TOi2 hTO⟩, ?_, ?_, ?_, ?_⟩ (by rw [hsz]; exact size_none _) (Heap.get?_push_size _ rfl) fun c o c1 _ c3 c4 e => up c o c1 c3 c4 e
      · obtain ⟨o, e, r⟩ := h1₂; exact ⟨o, Heap.get?_push_of_some _ (hs₄.extBut _ _ D.i12 e), r⟩
      · obtain ⟨o, e, r⟩ := h2₄; exact ⟨o, Heap.get?_push_of_some _ e, r⟩
      · obtain ⟨o, e, r⟩ := t1; exact ⟨o, up _ _ D.l1z D.l1i1 D.l1i2 e, r⟩
      · obtain ⟨o, e, r⟩ := t2; exact ⟨o, up _ _ D.l2z D.l2i1 D.l2i2 e, r⟩
set_option maxHeartbeats 2000000 in
theorem zip_end {z TI TO i1 i2 l1 l2 : Addr} {k : Nat} {xs ys : Array Value} {Q : PySem.Fin → Shared → Prop} (hh : A.handled = none) (D : ZipApart z TI TO i1 i2 l1 l2) (S : ZSt s.heap z TI TO i1 i2 l1 l2 xs ys k) (hend : xs[k]? = none ∨ ys[k]? = none)
    (hE : ∀ h' e, (∀ c o, c ≠ z → c ≠ TO → c ≠ i1 → c ≠ i2 → s.heap.get? c = some o → h'.get? c = some o) → (∃ o, h'.get? e = some o ∧ o.cls = .type "StopIteration") → E (.ref e) { s with heap := h' }) :
    wpAny (model prog w) A (Builtin.«zip.__next__» ⟨[.ref z], []⟩) Q E s := by
  refine hide fun G hG => ?_
  obtain ⟨hz, hTI, ⟨a, b, hTO⟩, h1, h2, t1, t2⟩ := S
  refine hG ?_
  rcases hz with hz | ⟨T0, o0, b0, hz, hT0, nz, nTO, n1, n2⟩
  · show wpAny _ _ (field (.ref z) 2 >>= _) _ _ _
    refine wpAny_bind (wpAny_field hz rfl (x := .bool false) rfl ?_)
    refine wpAny_bind (wpAny_field hz rfl (x := .ref TI) rfl ?_)
    refine wpAny_bind (wpAny_seqItems hTI rfl ?_)
    refine wpAny_bind ?_
    unfold Builtin.SmallTypes.ownedTupleIsFree
    refine wpAny_bind (wpAny_field hz rfl (x := .none) rfl (wpAny_pure ?_))
    dsimp only [if_true]
    refine wpAny_bind (wpAny_rule ?_)
    refine wpAny_bind (wpAny_field hz rfl (x := .ref TO) rfl ?_)
    refine wpAny_bind (wpAny_setField_rec hz (by simp) fun h₁ hz₁ hs₁ => ?_)
    replace hz₁ : IsZip h₁ z TI TO .ellipsis := hz₁
    refine wpAny_bind ?_
    simp only [List.zipIdx_cons, List.zipIdx_nil, List.forIn_cons, List.forIn_nil]
    refine wpAny_bind (wpAny_bind (wpAny_onRaise ?_))
    cases hx : xs[k]? with
    | none =>
      refine wpAny_bind (tnext_end hh (tit_ext h1 hs₁.extBut D.i1z) (tup_ext t1 hs₁.extBut D.l1z) hx fun h₂ e hs₂ he => ?_)
      obtain ⟨oe, hoe, hce⟩ := he
      have hz₂ : IsZip h₂ z TI TO .ellipsis := hs₂ _ _ D.i1z.symm hz₁
      have hez : e ≠ z := fun x => by subst x; rw [hz₂] at hoe; obtain rfl := Option.some.inj hoe; simp at hce
      refine wpAny_setField_rec hz₂ (by simp) fun h₃ _ hs₃ => hE h₃ e (fun c o c1 _ c3 _ x => hs₃.extBut _ _ c1 (hs₂ _ _ c3 (hs₁.extBut _ _ c1 x))) ⟨oe, hs₃.extBut _ _ hez hoe, hce⟩
    | some x =>
      have hy : ys[k]? = none := by rcases hend with h | h; rw [hx] at h; injection h; exact h
      refine wpAny_bind (tnext_item (tit_ext h1 hs₁.extBut D.i1z) (tup_ext t1 hs₁.extBut D.l1z) hx fun h₂ h1₂ hs₂ => wpAny_pure ?_)
      have hTO₂ : IsPair h₂ TO a b := hs₂.extBut _ _ D.TOi1 (hs₁.extBut _ _ D.TOz hTO)
      refine wpAny_bind (wpAny_seqItems hTO₂ rfl ?_)
      refine wpAny_bind (wpAny_updateSeq_pair hTO₂ fun h₃ hTO₃ hs₃ => ?_)
      refine wpAny_bind (wpAny_letGo (wpAny_pure ?_))
      refine wpAny_bind (wpAny_bind (wpAny_onRaise ?_))
      refine wpAny_bind (tnext_end hh (tit_ext (tit_ext (tit_ext h2 hs₁.extBut D.i2z) hs₂.extBut D.i12.symm) hs₃.extBut D.TOi2.symm)
        (tup_ext (tup_ext (tup_ext t2 hs₁.extBut D.l2z) hs₂.extBut D.l2i1) hs₃.extBut D.l2TO) hy fun h₄ e hs₄ he => ?_)
      obtain ⟨oe, hoe, hce⟩ := he
      have hz₄ : IsZip h₄ z TI TO .ellipsis := hs₄ _ _ D.i2z.symm (hs₃.extBut _ _ D.TOz.symm (hs₂.extBut _ _ D.i1z.symm hz₁))
      have hez : e ≠ z := fun x => by rcases x with ⟨⟩; rw [hz₄] at hoe; obtain rfl := Option.some.inj hoe; simp at hce
      refine wpAny_setField_rec hz₄ (by simp) fun h₅ _ hs₅ => hE h₅ e (fun c o c1 c2 c3 c4 x => hs₅.extBut _ _ c1 (hs₄ _ _ c4 (hs₃.extBut _ _ c2 (hs₂.extBut _ _ c3 (hs₁.extBut _ _ c1 x))))) ⟨oe, hs₅.extBut _ _ hez hoe, hce⟩
  · show wpAny _ _ (field (.ref z) 2 >>= _) _ _ _
    refine wpAny_bind (wpAny_field hz rfl (x := .bool false) rfl ?_)
    refine wpAny_bind (wpAny_field hz rfl (x := .ref TI) rfl ?_)
    refine wpAny_bind (wpAny_seqItems hTI rfl ?_)
    refine wpAny_bind ?_
    unfold Builtin.SmallTypes.ownedTupleIsFree
    refine wpAny_bind (wpAny_field hz rfl (x := rawInt (T0 : Nat)) rfl ?_)
    refine wpAny_bind (ifAlive ?_)
    rw [show ((T0 : Nat) : Int).toNat = T0 from rfl, hT0]
    dsimp only [Option.isNone_some, Bool.false_eq_true, if_false]
    refine wpAny_mono (Q := fun a s' => a = false ∧ ∃ hB, s' = { s with heap := hB } ∧ (∀ b o, b ≠ z → s.heap.get? b = some o → hB.get? b = some o)) ?_ (fun a s' ⟨ha, hB, hs', ext⟩ => ?_) (fun _ _ e => e)
    · refine wpAny_bind (wpAny_field hz rfl (x := .bool b0) rfl ?_)
      cases b0 with
      | true => exact wpAny_pure ⟨rfl, s.heap, rfl, fun b o _ e => e⟩
      | false =>
        exact wpAny_bind (wpAny_setField_rec hz (by simp) fun hB hzB hs => wpAny_pure ⟨rfl, hB, rfl, hs.extBut⟩)
    · subst ha hs'
      simp only [Bool.false_eq_true, if_false]
      refine wpAny_bind ?_
      rw [← Array.forIn_toList]
      simp only [List.forIn_cons, List.forIn_nil]
      refine wpAny_bind (wpAny_bind (wpAny_holding ?_))
      cases hx : xs[k]? with
      | none =>
        refine wpAny_bind (tnext_end hh (tit_ext h1 ext D.i1z) (tup_ext t1 ext D.l1z) hx fun h₂ e hs₂ he => ?_)
        exact hE h₂ e (fun c o c1 _ c3 _ x => hs₂ _ _ c3 (ext _ _ c1 x)) he
      | some x =>
        have hy : ys[k]? = none := by rcases hend with h | h; rw [hx] at h; injection h; exact h
        refine wpAny_bind (tnext_item (tit_ext h1 ext D.i1z) (tup_ext t1 ext D.l1z) hx fun h₂ h1₂ hs₂ => wpAny_pure (wpAny_pure ?_))
        refine wpAny_bind (wpAny_bind (wpAny_holding ?_))
        refine wpAny_bind (tnext_end hh (tit_ext (tit_ext h2 ext D.i2z) hs₂.extBut D.i12.symm) (tup_ext (tup_ext t2 ext D.l2z) hs₂.extBut D.l2i1) hy fun h₄ e hs₄ he => ?_)
        exact hE h₄ e (fun c o c1 _ c3 c4 x => hs₄ _ _ c4 (hs₂.extBut _ _ c3 (ext _ _ c1 x))) he
theorem zst_type {z TI TO i1 i2 l1 l2 : Addr} {k : Nat} {xs ys : Array Value} (S : ZSt s.heap z TI TO i1 i2 l1 l2 xs ys k) : s.TypeIs (.ref z) "zip" := by
  rcases S.z with h | ⟨_, _, _, h, _⟩ <;> exact ⟨_, h, rfl⟩
theorem zip_next {z TI TO i1 i2 l1 l2 : Addr} {k : Nat} {xs ys : Array Value} {x y : Value} {Q : Option Value → Shared → Prop} (D : ZipApart z TI TO i1 i2 l1 l2) (S : ZSt s.heap z TI TO i1 i2 l1 l2 xs ys k) (hx : xs[k]? = some x) (hy : ys[k]? = some y)
    (hQ : ∀ h' T, ZSt h' z TI TO i1 i2 l1 l2 xs ys (k + 1) → s.heap.get? T = none → h'.get? T = some (tupObj [x, y] 0) → (∀ c o, c ≠ z → c ≠ TO → c ≠ i1 → c ≠ i2 → s.heap.get? c = some o → h'.get? c = some o) → Q (some (.ref T)) { s with heap := h' }) :
    wpAny (model prog w) A (pyNext (.ref z)) Q E s := by
  have hT := zst_type S
  unfold pyNext
  exact wpAny_bind (wpAny_attempt (wpAny_callSpecial?_slot (name := Str.ofString "__next__") hT PySem.F.slot_zip_next
    (wpAny_call_entry PySem.F.slot_zip_next hT PySem.F.entry_zip_next (zip_item D S hx hy fun h' T a1 a2 a3 a4 => wpAny_pure (hQ h' T a1 a2 a3 a4)) (PySem.F.args_zip_next_1 _))))
theorem zip_done {z TI TO i1 i2 l1 l2 : Addr} {k : Nat} {xs ys : Array Value} {Q : Option Value → Shared → Prop} (hh : A.handled = none) (D : ZipApart z TI TO i1 i2 l1 l2) (S : ZSt s.heap z TI TO i1 i2 l1 l2 xs ys k) (hend : xs[k]? = none ∨ ys[k]? = none)
    (hQ : ∀ h', (∀ c o, c ≠ z → c ≠ TO → c ≠ i1 → c ≠ i2 → s.heap.get? c = some o → h'.get? c = some o) → Q none { s with heap := h' }) : wpAny (model prog w) A (pyNext (.ref z)) Q E s := by
  have hT := zst_type S
  unfold pyNext
  refine wpAny_bind (wpAny_attempt (wpAny_callSpecial?_slot (name := Str.ofString "__next__") hT PySem.F.slot_zip_next
    (wpAny_call_entry PySem.F.slot_zip_next hT PySem.F.entry_zip_next (zip_end hh D S hend fun h' e hk he => ?_) (PySem.F.args_zip_next_1 _))))
  obtain ⟨o, ho, hc⟩ := he
  refine wpAny_bind (wpAny_isInstance (T := "StopIteration") (b := true) ⟨o, ho, hc⟩ isSubtype_stop ?_)
  exact wpAny_pure (hQ _ hk)
end
end Mine.Internal
namespace Mine.Internal
open PySem PySem.W PyProof.Rows
open AutoSeq1 (wpAny_loadPart')
theorem zip_no_len : typeLookup (.type "zip") "__len__" = pure none := by rw [typeLookup_type, builtinLookup_eq_fast]; kernel_rfl
theorem zip_no_hint : typeLookup (.type "zip") "__length_hint__" = pure none := by rw [typeLookup_type, builtinLookup_eq_fast]; kernel_rfl
structure ZAcc (h h0 : Heap) (z TO i1 i2 S : Addr) (xs ys : Array Value) (acc : Array Value) (i : Nat) : Prop where
  size : acc.size = i
  at_ : ∀ (j : Nat) (v : Value), acc[j]? = some v → ∃ T x y, v = .ref T ∧ xs[j]? = some x ∧ ys[j]? = some y ∧ h.get? T = some (tupObj [x, y] 0) ∧ h0.get? T = none ∧ T ≠ z ∧ T ≠ TO ∧ T ≠ i1 ∧ T ≠ i2 ∧ T ≠ S
section
variable {prog : Program} {w : World} {A : Around} {E : Value → Shared → Prop} {s : Shared}
theorem ZAcc.keep {h h' h0 : Heap} {z TO i1 i2 S : Addr} {xs ys acc : Array Value} {i : Nat} (x : ZAcc h h0 z TO i1 i2 S xs ys acc i) (k : ∀ c o, c ≠ z → c ≠ TO → c ≠ i1 → c ≠ i2 → c ≠ S → h.get? c = some o → h'.get? c = some o) : ZAcc h' h0 z TO i1 i2 S xs ys acc i :=
  ⟨x.size, fun j v e => hide fun G hG => (x.at_ j v e).elim fun T q => q.elim fun a q => q.elim fun b q => hG ⟨T, a, b, q.1, q.2.1, q.2.2.1, k _ _ q.2.2.2.2.2.1 q.2.2.2.2.2.2.1 q.2.2.2.2.2.2.2.1 q.2.2.2.2.2.2.2.2.1 q.2.2.2.2.2.2.2.2.2 q.2.2.2.1, q.2.2.2.2⟩⟩
theorem ZSt.keep {h h' : Heap} {z TI TO i1 i2 l1 l2 : Addr} {xs ys : Array Value} {k : Nat} {S : Addr} (x : ZSt h z TI TO i1 i2 l1 l2 xs ys k) (nS : S ≠ z ∧ S ≠ TI ∧ S ≠ TO ∧ S ≠ i1 ∧ S ≠ i2 ∧ S ≠ l1 ∧ S ≠ l2) (hS : ∃ o, h'.get? S = some o) (kk : ∀ c o, c ≠ S → h.get? c = some o → h'.get? c = some o) : ZSt h' z TI TO i1 i2 l1 l2 xs ys k := by
  refine hide fun G hG => ?_
  obtain ⟨a, b, ⟨p, q, c⟩, d, e, f, g⟩ := x
  obtain ⟨n1, n2, n3, n4, n5, n6, n7⟩ := nS
  refine hG ?_
  refine ⟨?_, kk _ _ n2.symm b, ⟨p, q, kk _ _ n3.symm c⟩, ?_, ?_, ?_, ?_⟩
  · rcases a with a | ⟨T, o, bb, a1, a2, a3⟩
    · exact .inl (kk _ _ n1.symm a)
    · by_cases e : T = S
      · obtain ⟨o', ho'⟩ := hS
        exact .inr ⟨T, o', bb, kk _ _ n1.symm a1, e ▸ ho', a3⟩
      · exact .inr ⟨T, o, bb, kk _ _ n1.symm a1, kk _ _ e a2, a3⟩
  · obtain ⟨o, ho, r⟩ := d; exact ⟨o, kk _ _ n4.symm ho, r⟩
  · obtain ⟨o, ho, r⟩ := e; exact ⟨o, kk _ _ n5.symm ho, r⟩
  · obtain ⟨o, ho, r⟩ := f; exact ⟨o, kk _ _ n6.symm ho, r⟩
  · obtain ⟨o, ho, r⟩ := g; exact ⟨o, kk _ _ n7.symm ho, r⟩
theorem zip_loop (hh : A.handled = none) {z TI TO i1 i2 l1 l2 S : Addr} {xs ys : Array Value} {h0 : Heap} {R : Result → Shared → Prop} {res : Value} (D : ZipApart z TI TO i1 i2 l1 l2) (nS : S ≠ z ∧ S ≠ TI ∧ S ≠ TO ∧ S ≠ i1 ∧ S ≠ i2 ∧ S ≠ l1 ∧ S ≠ l2) (hn : min xs.size ys.size ≤ 4096) (h0S : h0.get? S = none) :
    ∀ (k i : Nat) (s : Shared) (acc : Array Value) (c : Nat), min xs.size ys.size - i = k → i ≤ min xs.size ys.size → (∀ b o, b ≠ z → b ≠ TO → b ≠ i1 → b ≠ i2 → h0.get? b = some o → s.heap.get? b = some o) → (∀ b, b = z ∨ b = TI ∨ b = TO ∨ b = i1 ∨ b = i2 ∨ b = S → ∃ o, s.heap.get? b = some o) →
    ZSt s.heap z TI TO i1 i2 l1 l2 xs ys i → s.heap.get? S = some { cls := .type "list", dict := none, data := .seq acc c, slots := #[] } → ZAcc s.heap h0 z TO i1 i2 S xs ys acc i →
    (∀ h' acc' c', (∀ b o, b ≠ z → b ≠ TO → b ≠ i1 → b ≠ i2 → h0.get? b = some o → h'.get? b = some o) → h'.get? S = some { cls := .type "list", dict := none, data := .seq acc' c', slots := #[] } → ZAcc h' h0 z TO i1 i2 S xs ys acc' (min xs.size ys.size) → R (.ok (.ret res)) { s with heap := h' }) →
    codeAny (model prog w) A (.builtin "list.extend.loop" ⟨[.ref S, .ref z, res], []⟩) R s := by
  intro k
  induction k with
  | zero =>
    intro i s acc c hk hi hb hex hst hS hacc hR
    have hin : i = min xs.size ys.size := by lia
    refine codeAny_builtin PySem.F.entry_extend_loop ?_
    rw [Around.under_plainId PySem.F.plain_extend_loop _]
    show wpAny _ A.in1 (pyNext (.ref z) >>= _) _ _ s
    refine wpAny_bind (zip_done (by simpa using hh) D hst ?_ fun h' hk => wpAny_pure ?_)
    · rcases Nat.le_total xs.size ys.size with h | h
      · exact .inl (Array.getElem?_eq_none (by lia))
      · exact .inr (Array.getElem?_eq_none (by lia))
    · exact hR h' acc c (fun b o a1 a2 a3 a4 e => hk _ _ a1 a2 a3 a4 (hb b o a1 a2 a3 a4 e)) (hk _ _ nS.1 nS.2.2.1 nS.2.2.2.1 nS.2.2.2.2.1 hS) (by simp only [← hin]; exact hacc.keep fun c o a1 a2 a3 a4 _ e => hk c o a1 a2 a3 a4 e)
  | succ k ih =>
    intro i s acc c hk hi hb hex hst hS hacc hR
    have hlt : i < min xs.size ys.size := by lia
    have hx : i < xs.size := by lia
    have hy : i < ys.size := by lia
    refine codeAny_builtin PySem.F.entry_extend_loop ?_
    rw [Around.under_plainId PySem.F.plain_extend_loop _]
    show wpAny _ A.in1 (pyNext (.ref z) >>= _) _ _ s
    refine wpAny_bind (zip_next D hst (Array.getElem?_eq_getElem hx) (Array.getElem?_eq_getElem hy) fun h' T st' nT hT hk' => ?_)
    have nTo : ∀ b, b = z ∨ b = TI ∨ b = TO ∨ b = i1 ∨ b = i2 ∨ b = S → T ≠ b := fun b hb' e => by
      obtain ⟨o, q⟩ := hex b hb'; rw [← e, nT] at q; injection q
    have hS' := hk' _ _ nS.1 nS.2.2.1 nS.2.2.2.1 nS.2.2.2.2.1 hS
    refine wpAny_bind (wpAny_updateSeq hS' rfl (wpAny_pure ⟨plainId_quiet PySem.F.plain_extend_loop _, ?_⟩) (by rw [hacc.size]; exact line_4096 (by lia)) (by show (acc.push (.ref T)).size ≤ sizeLine + 1; rw [Array.size_push, hacc.size]; have := line_4096 hn; lia))
    have hSu := Heap.get?_update_self (Obj.mapSeq (·.push (Value.ref T))) hS' rfl
    have ko : ∀ c o, c ≠ S → h'.get? c = some o → (h'.update S (Obj.mapSeq (·.push (Value.ref T)))).get? c = some o := fun c o n e => (Heap.get?_update_other _ _ (Ne.symm n)).trans e
    have nTS := nTo S (by simp)
    refine ih (i + 1) _ (acc.push (.ref T)) _ (by lia) hlt (fun b o a1 a2 a3 a4 e => ko _ _ (fun q => by rw [q, h0S] at e; injection e) (hk' _ _ a1 a2 a3 a4 (hb b o a1 a2 a3 a4 e))) (fun b hb' => ?_) (st'.keep nS ⟨_, hSu⟩ ko) hSu ⟨by rw [Array.size_push, hacc.size], fun j v e => ?_⟩ fun h'' acc' c' hb'' hS'' hacc'' => hR h'' acc' c' hb'' hS'' hacc''
    · by_cases q : b = S
      · rw [q]; exact ⟨_, hSu⟩
      · have : ∃ o, h'.get? b = some o := by
          rcases hb' with rfl | rfl | rfl | rfl | rfl | rfl
          · rcases st'.z with h | ⟨_, _, _, h, _⟩ <;> exact ⟨_, h⟩
          · exact ⟨_, st'.ti⟩
          · obtain ⟨_, _, h⟩ := st'.to; exact ⟨_, h⟩
          · obtain ⟨o, h, _⟩ := st'.h1; exact ⟨o, h⟩
          · obtain ⟨o, h, _⟩ := st'.h2; exact ⟨o, h⟩
          · exact ⟨_, hS'⟩
        obtain ⟨o, e⟩ := this
        exact ⟨o, ko _ _ q e⟩
    · rw [Array.getElem?_push] at e
      split at e
      · rename_i ej
        refine hide fun G hG => ?_
        obtain rfl := Option.some.inj e
        rw [hacc.size] at ej
        subst ej
        refine hG ?_
        refine ⟨T, _, _, rfl, Array.getElem?_eq_getElem hx, Array.getElem?_eq_getElem hy, ko _ _ nTS hT, ?_, nTo z (by simp), nTo TO (by simp), nTo i1 (by simp), nTo i2 (by simp), nTS⟩
        induction q : h0.get? T with
        | none => rfl
        | some o =>
          have := hb T o (nTo z (by simp)) (nTo TO (by simp)) (nTo i1 (by simp)) (nTo i2 (by simp)) q
          rw [nT] at this; injection this
      · obtain ⟨T', a, b, e1, e2, e3, e4, e5, m1, m2, m3, m4, m5⟩ := hacc.at_ j v e
        exact ⟨T', a, b, e1, e2, e3, ko _ _ m5 (hk' _ _ m1 m2 m3 m4 e4), e5, m1, m2, m3, m4, m5⟩
theorem collect_zip (hh : A.handled = none) {z TI TO i1 i2 l1 l2 : Addr} {xs ys : Array Value} {h0 : Heap} {Q : List Value → Shared → Prop} (D : ZipApart z TI TO i1 i2 l1 l2) (hn : min xs.size ys.size ≤ 4096)
    (hz : IsZip s.heap z TI TO .none) (st : ZSt s.heap z TI TO i1 i2 l1 l2 xs ys 0) (hb : ∀ b o, b ≠ z → b ≠ TO → b ≠ i1 → b ≠ i2 → h0.get? b = some o → s.heap.get? b = some o)
    (h0n : h0.get? s.heap.objs.size = none)
    (hQ : ∀ h' acc', (∀ b o, b ≠ z → b ≠ TO → b ≠ i1 → b ≠ i2 → h0.get? b = some o → h'.get? b = some o) → ZAcc h' h0 z TO i1 i2 s.heap.objs.size xs ys acc' (min xs.size ys.size) → Q acc'.toList { s with heap := h' }) :
    wpAny (model prog w) A (collect (.ref z)) Q E s := by
  have hT : ∀ {s : Shared}, s.heap.get? z = some (zipObj .none (.bool false) TI TO) → s.TypeIs (.ref z) "zip" := fun h => ⟨_, h, rfl⟩
  have ne : ∀ {b o}, s.heap.get? b = some o → s.heap.objs.size ≠ b := fun e => Nat.ne_of_gt (Heap.lt_size e)
  refine hide fun G hG => ?_
  obtain ⟨a, b, hTO⟩ := st.to
  obtain ⟨o1, e1, r1⟩ := st.h1
  obtain ⟨o2, e2, r2⟩ := st.h2
  obtain ⟨o3, e3, r3⟩ := st.t1
  obtain ⟨o4, e4, r4⟩ := st.t2
  have nS : s.heap.objs.size ≠ z ∧ s.heap.objs.size ≠ TI ∧ s.heap.objs.size ≠ TO ∧ s.heap.objs.size ≠ i1 ∧ s.heap.objs.size ≠ i2 ∧ s.heap.objs.size ≠ l1 ∧ s.heap.objs.size ≠ l2 := ⟨ne hz, ne st.ti, ne hTO, ne e1, ne e2, ne e3, ne e4⟩
  refine hG ?_
  unfold collect
  refine wpAny_bind (wpAny_runValue (codeAny_builtin PySem.F.entry_proto_collect ?_))
  rw [Around.under_plainId PySem.F.plain_proto_collect _]
  show wpAny _ A.in1 (newList [] >>= fun l => again (.builtin "list.__iadd__" ⟨[l, .ref z], []⟩)) _ _ s
  refine wpAny_bind (wpAny_newObj_type ?_)
  refine wpAny_pure ⟨plainId_quiet PySem.F.plain_list_iadd _, codeAny_builtin PySem.F.entry_list_iadd ?_⟩
  rw [Around.under_plainId PySem.F.plain_list_iadd _]
  have hz1 : (s.heap.push { cls := .type "list", data := .seq ([] : List Value).toArray }).get? z = some (zipObj .none (.bool false) TI TO) := Heap.get?_push_of_some _ hz
  show wpAny _ A.in1 (Builtin.List.listExtendWith (.ref s.heap.objs.size) (.ref z) (.ref s.heap.objs.size)) _ _ _
  unfold Builtin.List.listExtendWith
  refine wpAny_bind (wpAny_typeOf (hT hz1) ?_)
  have h1 : Builtin.List.listSameRef (.ref s.heap.objs.size) (.ref z) = false := by simp [Builtin.List.listSameRef, nS.1]
  have h2 : (Value.type "zip" == Value.type "list") = false := by decide
  have h3 : (Value.type "zip" == Value.type "tuple") = false := by decide
  simp only [h1, h2, h3, Bool.or_false, Bool.false_eq_true, if_false]
  refine wpAny_bind (wpAny_pyIter_zip (s := { s with heap := s.heap.push { cls := .type "list", data := .seq ([] : List Value).toArray } }) hz1 ?_)
  refine wpAny_bind (wpAny_holding ?_)
  unfold Builtin.List.listLengthHint
  refine wpAny_bind (wpAny_specialOf (hT hz1) zip_no_len ?_)
  refine wpAny_bind (wpAny_specialOf (hT hz1) zip_no_hint ?_)
  refine wpAny_pure ?_
  show wpAny _ A.in1 (rule "list.extend.makes-room" >>= fun _ => Builtin.List.listTouch (.ref s.heap.objs.size) >>= fun _ =>
    again (.builtin "list.extend.loop" ⟨[.ref s.heap.objs.size, .ref z, .ref s.heap.objs.size], []⟩)) _ _ _
  refine wpAny_bind (wpAny_rule ?_)
  have hS₁ : (s.heap.push { cls := .type "list", data := .seq ([] : List Value).toArray }).get? s.heap.objs.size = some { cls := .type "list", data := .seq ([] : List Value).toArray } := Heap.get?_push_size _ rfl
  refine wpAny_bind ?_
  refine wpAny_bind (wpAny_updateSeq hS₁ rfl ?_)
  have hS₂ := Heap.get?_update_self (Obj.mapSeq (·.push Value.none)) hS₁ rfl
  refine wpAny_updateSeq hS₂ rfl ?_
  have hS₃ := Heap.get?_update_self (Obj.mapSeq (·.pop)) hS₂ rfl
  have oth : ∀ b o, b ≠ s.heap.objs.size → s.heap.get? b = some o →
      (((s.heap.push { cls := .type "list", data := .seq ([] : List Value).toArray }).update s.heap.objs.size (Obj.mapSeq (·.push Value.none))).update s.heap.objs.size (Obj.mapSeq (·.pop))).get? b = some o :=
    fun b o hb e => (Heap.get?_update_other _ _ (Ne.symm hb)).trans ((Heap.get?_update_other _ _ (Ne.symm hb)).trans (Heap.get?_push_of_some _ e))
  have ex : ∀ {b o}, s.heap.get? b = some o → ∃ o, (((s.heap.push { cls := .type "list", data := .seq ([] : List Value).toArray }).update s.heap.objs.size (Obj.mapSeq (·.push Value.none))).update s.heap.objs.size (Obj.mapSeq (·.pop))).get? b = some o := fun e => ⟨_, oth _ _ (Ne.symm (ne e)) e⟩
  refine wpAny_pure ⟨plainId_quiet PySem.F.plain_extend_loop _, zip_loop hh D nS hn h0n _ 0 _ #[] _ rfl (Nat.zero_le _) (fun b o a1 a2 a3 a4 e => oth _ _ (fun q => by rw [q, h0n] at e; injection e) (hb b o a1 a2 a3 a4 e)) (fun b hb' => ?_)
    (st.keep nS ⟨_, hS₃⟩ fun c o n e => oth c o n e) hS₃ ⟨rfl, fun j v e => by simp at e⟩ fun h' acc' c' k g za => ?_⟩
  · rcases hb' with rfl | rfl | rfl | rfl | rfl | rfl
    · exact ex hz
    · exact ex st.ti
    · exact ex hTO
    · exact ex e1
    · exact ex e2
    · exact ⟨_, hS₃⟩
  · show wpAny _ A (load s.heap.objs.size >>= _) _ _ _
    refine wpAny_bind (wpAny_load g ?_)
    exact wpAny_pure (hQ h' acc' k za)
end
end Mine.Internal
namespace Mine.Internal
open PySem PySem.W PyProof.Rows
open AutoSeq1 (wpAny_loadPart')
noncomputable abbrev zH1 (h : Heap) (l1 : Addr) : Heap := h.push { cls := .type "tuple_iterator", data := .fields #[.ref l1, .int 0 0] }
noncomputable abbrev zH2 (h : Heap) (l1 l2 : Addr) : Heap := (zH1 h l1).push { cls := .type "tuple_iterator", data := .fields #[.ref l2, .int 0 0] }
noncomputable abbrev zH3 (h : Heap) (l1 l2 : Addr) : Heap := (zH2 h l1 l2).push { cls := .type "tuple", data := .seq #[.ref h.objs.size, .ref (zH1 h l1).objs.size] }
noncomputable abbrev zH4 (h : Heap) (l1 l2 : Addr) : Heap := (zH3 h l1 l2).push { cls := .type "tuple", data := .seq #[.none, .none] }
noncomputable abbrev zH5 (h : Heap) (l1 l2 : Addr) : Heap := (zH4 h l1 l2).push { cls := .type "zip", data := .fields #[.none, .bool false, .bool false, .ref (zH2 h l1 l2).objs.size, .ref (zH3 h l1 l2).objs.size] }
theorem meets_zip_tup (l1 l2 : Addr) (xs ys : Array Value) :
    Meets (Builtin.«zip.__new__» ⟨[.type "zip", .ref l1, .ref l2], []⟩) (fun _ R s => s.heap.IsTuple l1 xs ∧ s.heap.IsTuple l2 ys ∧
      R (.ok (.ret (.ref (zH4 s.heap l1 l2).objs.size))) { s with heap := zH5 s.heap l1 l2 }) :=
  .of_wp fun prog w A R s h => by
    obtain ⟨hp, g, d, tk, os⟩ := s; obtain ⟨hl1, hl2, h⟩ := h
    have hsub := sub_zip
    have hL1 : Heap.IsTuple (Shared.heap ⟨hp, g, d, tk, os⟩) l1 xs := hl1
    have hL2 : Heap.IsTuple (Shared.heap ⟨hp.push { cls := .type "tuple_iterator", data := .fields #[.ref l1, .int 0 0] }, g, d, tk, os⟩) l2 ys := Heap.IsTuple.push hl2 _
    wp_walk using wpAny_pyIter_tuple hL1, wpAny_pyIter_tuple hL2
    exact ⟨_, rfl, h⟩
theorem meets_tuple_zip (z TI TO i1 i2 l1 l2 : Addr) (xs ys : Array Value) (h0 : Heap) (D : ZipApart z TI TO i1 i2 l1 l2) (hn : min xs.size ys.size ≤ 4096) :
    Meets (Builtin.«tuple.__new__» ⟨[.type "tuple", .ref z], []⟩)
      (fun A R s => A.handled = none ∧ IsZip s.heap z TI TO .none ∧ ZSt s.heap z TI TO i1 i2 l1 l2 xs ys 0 ∧ (∀ b o, b ≠ z → b ≠ TO → b ≠ i1 → b ≠ i2 → h0.get? b = some o → s.heap.get? b = some o) ∧ h0.get? s.heap.objs.size = none ∧
        ∀ (h' : Heap) (acc' : Array Value), (∀ b o, b ≠ z → b ≠ TO → b ≠ i1 → b ≠ i2 → h0.get? b = some o → h'.get? b = some o) → ZAcc h' h0 z TO i1 i2 s.heap.objs.size xs ys acc' (min xs.size ys.size) → R (.ok (.ret (.ref h'.objs.size))) { s with heap := h'.push { cls := .type "tuple", data := .seq acc' } }) :=
  .of_wp fun prog w A R s h => by
    obtain ⟨hp, g, d, tk, os⟩ := s; obtain ⟨hh, hz, st, hb, h0n, h⟩ := h
    have hsub := sub_tuple_self
    have hinit := init_tuple_lookup
    have hmh := madeHere_tuple
    have hT : Shared.TypeIs ⟨hp, g, d, tk, os⟩ (.ref z) "zip" := ⟨_, hz, rfl⟩
    wp_walk using wpAny_loadPart' hz, wpAny_typeOf hT, collect_zip (A := A.in1) hh D hn hz st hb h0n
    intro h' acc' hk hi
    show wpAny _ _ (Builtin.Tuple.tupleExact acc'.toList.toArray >>= fun v => ret v) _ _ _
    unfold Builtin.Tuple.tupleExact
    have hz : acc'.size ≤ sizeLine := by rw [hi.size]; exact line_4096 hn
    refine wpAny_bind (wpAny_newObj_type ?_ (by show acc'.toList.toArray.size ≤ sizeLine; simpa using hz))
    refine wpAny_pure ⟨_, rfl, ?_⟩
    have e : acc'.toList.toArray = acc' := by simp
    rw [e]
    exact h h' _ hk hi
section
variable {prog : Program} {w : World} {A : Around} {s : Shared} {O : Addr → Prop}
theorem p_tupzip {u v : List V} {a b : Value} {Q : Value → Shared → Prop} {E : Value → Shared → Prop} (hh : A.handled = none) (l : Live s.heap O) (ra : Rep s.heap O (.tup u) a) (rb : Rep s.heap O (.tup v) b)
    (k : ∀ r h' , Kp s.heap h' → Rep h' O (.tup ((u.zip v).map fun p => .tup [p.1, p.2])) r → Q r { s with heap := h' }) :
    wpAny (model prog w) A (call (.type "zip") [a, b]) (fun zv s1 => wpAny (model prog w) A (call (.type "tuple") [zv]) Q E s1) E s := by
  refine hide fun G hG => ?_
  obtain ⟨l1, xs, n1, rfl, na, ga, ha, rla⟩ := ra
  obtain ⟨l2, ys, n2, rfl, nb, gb, hb, rlb⟩ := rb
  have t1 : s.heap.IsTuple l1 xs.toArray := isTup_of ga
  have t2 : s.heap.IsTuple l2 ys.toArray := isTup_of gb
  refine hG ?_
  refine callType_new PySem.F.called_zip (by decide) (PySem.F.typeCall_zip_2 _ _) (PySem.F.newCall_zip_2 _ _) (fun obj => PySem.F.args_object_init_3 obj _ _) PySem.F.entry_zip_new
    (meets_zip_tup l1 l2 xs.toArray ys.toArray) ⟨t1, t2, ?_⟩
  have z1 : (zH1 s.heap l1).objs.size = s.heap.objs.size + 1 := Heap.size_push ..
  have z2 : (zH2 s.heap l1 l2).objs.size = s.heap.objs.size + 2 := by rw [Heap.size_push, z1]
  have z3 : (zH3 s.heap l1 l2).objs.size = s.heap.objs.size + 3 := by rw [Heap.size_push, z2]
  have z4 : (zH4 s.heap l1 l2).objs.size = s.heap.objs.size + 4 := by rw [Heap.size_push, z3]
  have z5 : (zH5 s.heap l1 l2).objs.size = s.heap.objs.size + 5 := by rw [Heap.size_push, z4]
  have g5 : (zH5 s.heap l1 l2).get? (zH4 s.heap l1 l2).objs.size = some _ := Heap.get?_push_size _ rfl
  have g4 : (zH5 s.heap l1 l2).get? (zH3 s.heap l1 l2).objs.size = some _ := Heap.get?_push_of_some _ (Heap.get?_push_size _ rfl)
  have g3 : (zH5 s.heap l1 l2).get? (zH2 s.heap l1 l2).objs.size = some _ := Heap.get?_push_of_some _ (Heap.get?_push_of_some _ (Heap.get?_push_size _ rfl))
  have g2 : (zH5 s.heap l1 l2).get? (zH1 s.heap l1).objs.size = some _ := Heap.get?_push_of_some _ (Heap.get?_push_of_some _ (Heap.get?_push_of_some _ (Heap.get?_push_size _ rfl)))
  have g1 : (zH5 s.heap l1 l2).get? s.heap.objs.size = some _ := Heap.get?_push_of_some _ (Heap.get?_push_of_some _ (Heap.get?_push_of_some _ (Heap.get?_push_of_some _ (Heap.get?_push_size _ rfl))))
  have kp : Kp s.heap (zH5 s.heap l1 l2) := fun c o x => Heap.get?_push_of_some _ (Heap.get?_push_of_some _ (Heap.get?_push_of_some _ (Heap.get?_push_of_some _ (Heap.get?_push_of_some _ x))))
  refine ⟨⟨_, g5, rfl⟩, ?_⟩
  rw [z2, z3, z4] at g5
  rw [z1, z2] at g3
  rw [z3] at g4
  rw [z1] at g2
  rw [z4]
  have lt1 := Heap.lt_size ga
  have lt2 := Heap.lt_size gb
  have D : ZipApart (s.heap.objs.size + 4) (s.heap.objs.size + 2) (s.heap.objs.size + 3) s.heap.objs.size (s.heap.objs.size + 1) l1 l2 := by
    have q1 : (l1 : Nat) < s.heap.objs.size := lt1
    have q2 : (l2 : Nat) < s.heap.objs.size := lt2
    generalize s.heap.objs.size = n at q1 q2 ⊢
    clear lt1 lt2 g1 g2 g3 g4 g5 z1 z2 z3 z4 z5 kp t1 t2 ga gb ha hb
    have n1 : ∀ j, (l1 : Nat) ≠ n + j := fun j => Nat.ne_of_lt (Nat.lt_of_lt_of_le q1 (Nat.le_add_right _ _))
    have n2 : ∀ j, (l2 : Nat) ≠ n + j := fun j => Nat.ne_of_lt (Nat.lt_of_lt_of_le q2 (Nat.le_add_right _ _))
    have n3 : ∀ i j, i ≠ j → (n + i : Nat) ≠ n + j := fun i j x y => x (Nat.add_left_cancel y)
    constructor <;> first
      | exact n1 _
      | exact n2 _
      | exact (n1 _).symm
      | exact (n2 _).symm
      | exact n1 0
      | exact n2 0
      | exact (n1 0).symm
      | exact (n2 0).symm
      | exact n3 _ _ (by decide)
      | exact n3 0 _ (by decide)
      | exact n3 _ 0 (by decide)
  have st : ZSt (zH5 s.heap l1 l2) (s.heap.objs.size + 4) (s.heap.objs.size + 2) (s.heap.objs.size + 3) s.heap.objs.size (s.heap.objs.size + 1) l1 l2 xs.toArray ys.toArray 0 :=
    ⟨.inl g5, g3, ⟨_, _, g4⟩, ⟨_, g1, rfl, rfl⟩, ⟨_, g2, rfl, rfl⟩, isTup_of (kp _ _ ga), isTup_of (kp _ _ gb)⟩
  have nn : s.heap.get? (zH5 s.heap l1 l2).objs.size = none := Heap.get?_none_of_le (by rw [z5]; lia)
  have nO : ∀ {c}, s.heap.get? c = none → ¬ O c := fun h => l.fresh h
  have hmin : min xs.toArray.size ys.toArray.size ≤ 4096 := by rw [List.size_toArray]; lia
  have fresh : ∀ j : Nat, s.heap.get? (s.heap.objs.size + j) = none := fun j => Heap.get?_none_of_le (Nat.le_add_right _ _)
  refine callType_new F.called_tuple (by decide) (F.typeCall_tuple_1 _) (F.newCall_tuple_1 _) (fun obj => F.args_object_init_2 obj _) F.entry_tuple_new
    (meets_tuple_zip _ _ _ _ _ _ _ _ _ s.heap D hmin) ⟨by simpa using hh, g5, st, fun b o _ _ _ _ e => kp b o e, nn, fun h' acc k' za => ⟨⟨_, Heap.get?_push_size _ rfl, rfl⟩, ?_⟩⟩
  have kp' : Kp s.heap h' := fun b o e => by
    have hb : (b : Nat) < s.heap.objs.size := Heap.lt_size e
    refine k' b o ?_ ?_ ?_ ?_ e <;> (intro q; rw [q] at hb; first | exact Nat.lt_irrefl _ hb | exact Nat.not_lt.mpr (Nat.le_add_right _ _) hb)
  refine k _ _ (kp'.trans (Kp.push _ _)) ⟨_, acc.toList, 0, rfl, ?_, by rw [Array.toArray_toList]; exact Heap.get?_push_size _ rfl, by simp only [Array.length_toList, za.size]; exact hmin, ?_⟩
  · exact new_kp l kp' (size_none _)
  · refine RepL.of_at (by simp only [Array.length_toList, za.size, List.length_map, List.length_zip, List.size_toArray, List.size_toArray, rla.length, rlb.length]) fun j x v' p q => ?_
    rw [Array.getElem?_toList] at q
    obtain ⟨T, x1, y1, rfl, e1, e2, e3, e4, _⟩ := za.at_ j v' q
    rw [List.getElem?_map] at p
    induction hp : (u.zip v)[j]? with
    | none => rw [hp] at p; exact nS p
    | some pr =>
      rw [hp] at p; obtain rfl := Option.some.inj p
      rw [List.getElem?_zip_eq_some] at hp
      rw [List.getElem?_toArray] at e1 e2
      refine hide fun G hG => ?_
      obtain ⟨w1, hw1, rw1⟩ := rla.get e1
      obtain ⟨w2, hw2, rw2⟩ := rlb.get e2
      refine hG ?_
      rw [hp.1] at hw1; obtain rfl := Option.some.inj hw1
      rw [hp.2] at hw2; obtain rfl := Option.some.inj hw2
      have kk := kp'.trans (Kp.push h' { cls := .type "tuple", data := .seq acc })
      exact ⟨T, _, 0, rfl, nO e4, Heap.get?_push_of_some _ e3, by simp, _, _, rfl, rw1.kp kk, _, _, rfl, rw2.kp kk, rfl⟩
end
theorem n_tupzip {c : Cx} (ok : c.OK) (gl : c.Gl) {A : Around} {cl : Nat} {sc : Sc} {X F : Addr → Prop} {env : Env} {P : Prog} {C : CallT} {r : EV} {K : CE → Expr → Bool} {a b : CE} {ea eb : Expr} {p p2 p3 pos : Pos} (rm : Room A cl) (IHE : ∀ ce e, K ce e = true → OkE c A sc X F env e (fun l h => r.E l h ce))
    (h : chkL K [a, b] [ea, eb] = true) (g1 : isG sc "tuple" = true) (g2 : isG sc "zip" = true) :
    OkE c A sc X F env (.Call (.Name "tuple" p) [.Call (.Name "zip" p2) [ea, eb] [] p3] [] pos) (fun l h => stepE P C r l h (.tupzip a b)) := fun O ad loc hp s rv hp' Q S e k => by
  refine obn_e e fun x hp1 e1 e => obn_e e fun y hp2 e2 e => ?_
  refine Call_Name rfl (load_boot (v := .type "tuple") ok S.sr S.en (isG_of g1) (gl.blt _ (by decide)) (by decide +kernel) (by decide +kernel) (by decide +kernel) ?_)
  have hs : ∀ e ∈ [Expr.Call (.Name "zip" p2) [ea, eb] [] p3], notStar e = true := fun e m => List.mem_singleton.mp m ▸ rfl
  refine PySem.callWith_type rfl (evalArgs_sp hs (args_cons ?_ rfl))
  refine Call_Name rfl (load_boot (v := .type "zip") ok S.sr S.en (isG_of g2) (gl.blt _ (by decide)) (by decide +kernel) (by decide +kernel) (by decide +kernel) ?_)
  refine PySem.callWith_type (noneStar env p3 h) (evalArgs_sp (chkL_star h) (n_args p3 IHE h S (evR_cons e1 (evR_cons e2 rfl)) fun vs s1 O1 ad1 H1 t1 p1 r1 => ?_))
  obtain ⟨v1, _, rfl, r1a, v2, _, rfl, r1b, rfl⟩ := r1
  exact rTup_e e r1a fun u r1a e => rTup_e e r1b fun v r1b e => wpAny_mono (p_tupzip rm.h H1.live r1a r1b fun r h' kp rr => ((k.of e).trans t1 p1) r _ O1 ad1 (H1.stay (tk := s1.toks) kp) (Step.stay kp) (.refl _) rr) (fun zv s2 hz => args_nil hz) (fun _ _ x => x)
end Mine.Internal
namespace Mine.Internal
open PySem PySem.W PyProof.Rows
noncomputable def mkS (b : Nat) : List Nat := (List.range 4).filter (fun i => b.testBit i)
noncomputable def sTab (b : Nat) (led : Bool) : SetTable := { mask := 7, place := (mkS b).toArray, dummies := #[], finger := 0, led := led, moves := 0, plain := true }
noncomputable def pS (b k : Nat) : Nat := SetTable.below (mkS b).toArray k
noncomputable def sObj (es : List (Int × Value)) (ep b : Nat) (led : Bool) : Obj := { cls := .type "set", dict := none, data := .set es.toArray ep (sTab b led) }
structure SmSet (h : Heap) (a : Addr) (b : Nat) (led : Bool) (es : List (Int × Value)) : Prop where
  ob : ∃ ep, h.get? a = some (sObj es ep b led)
  keys : es.map (·.1) = (mkS b).map Int.ofNat
  vals : ∀ e ∈ es, ∃ t, e.2 = .int e.1 t
theorem f_slot : ∀ led : Bool, ∀ b, b < 16 → ∀ k, k < 4 → b.testBit k = false → (sTab b led).freeSlot (Int.ofNat k) = some (k, false) := by decide +kernel
theorem f_put : ∀ led : Bool, ∀ b, b < 16 → ∀ k, k < 4 → b.testBit k = false → (sTab b led).put k = (sTab (b ||| 2 ^ k) led, pS b k) := by decide +kernel
theorem f_ins : ∀ b, b < 16 → ∀ k, k < 4 → b.testBit k = false → (mkS b).take (pS b k) ++ k :: (mkS b).drop (pS b k) = mkS (b ||| 2 ^ k) := by decide +kernel
theorem f_fits : ∀ led : Bool, ∀ b, b < 16 → (sTab b led).fits (mkS b).length = true := by decide +kernel
theorem f_full : ∀ led : Bool, ∀ b, b < 16 → (sTab b led).tooFull = false := by decide +kernel
theorem f_lt : ∀ b, b < 16 → ∀ k, k < 4 → b ||| 2 ^ k < 16 := by decide +kernel
theorem f_same : ∀ b, b < 16 → ∀ k, k < 4 → b.testBit k = true → b ||| 2 ^ k = b := by decide +kernel
theorem f_len : ∀ b, b < 16 → (mkS b).length ≤ 4 := by decide +kernel
theorem f_hash : ∀ k, k < 4 → hashInt (Int.ofNat k) = Int.ofNat k := by decide +kernel
theorem f_sort : ∀ b, b < 16 → sortI ((mkS b).map Int.ofNat) = (mkS b).map Int.ofNat := by decide +kernel
theorem mem_mkS {b k : Nat} (h : k < 4) : k ∈ mkS b ↔ b.testBit k = true := by
  unfold mkS; rw [List.mem_filter, List.mem_range]; exact ⟨fun x => x.2, fun x => ⟨h, x⟩⟩
theorem SmSet.len {h : Heap} {a : Addr} {b : Nat} {led : Bool} {es : List (Int × Value)} (S : SmSet h a b led es) : es.length = (mkS b).length := by
  have := congrArg List.length S.keys; simpa using this
theorem SmSet.fits {h : Heap} {a : Addr} {b : Nat} {led : Bool} {es : List (Int × Value)} (S : SmSet h a b led es) (hb : b < 16) : (sTab b led).fits es.toArray.size = true := by
  rw [List.size_toArray, S.len]; exact f_fits led b hb
theorem SmSet.elems {prog : Program} {w : World} {h : Heap} {a : Addr} {b : Nat} {led : Bool} {es : List (Int × Value)} (S : SmSet h a b led es) : ElemsOf (intKind prog w) es.toArray.toList := fun e he => by
  rw [List.toList_toArray] at he
  obtain ⟨t, q⟩ := S.vals e he
  have hk : e.1 ∈ (mkS b).map Int.ofNat := by rw [← S.keys]; exact List.mem_map_of_mem he
  obtain ⟨k, hk, e1⟩ := List.mem_map.mp hk
  have k4 : k < 4 := List.mem_range.mp (List.mem_filter.mp hk).1
  refine ⟨⟨e.1, by rw [q]; exact intKind_is _ _ _ _, ?_⟩, by rw [q]; rfl⟩
  show e.1 = hashInt e.1
  rw [← e1]; exact (f_hash k k4).symm
theorem SmSet.found {prog : Program} {w : World} {h : Heap} {a : Addr} {b k : Nat} {led : Bool} {es : List (Int × Value)} (S : SmSet h a b led es) (k4 : k < 4) :
    (∃ e ∈ es, (intKind prog w).is (Int.ofNat k) e.2 = true) ↔ b.testBit k = true := by
  constructor
  · rintro ⟨e, he, p⟩
    obtain ⟨t, q⟩ := S.vals e he
    obtain ⟨t', q'⟩ := Value.isInt_shape (show Value.isInt (Int.ofNat k) e.2 = true from p)
    have e1 : e.1 = Int.ofNat k := by rw [q] at q'; injection q'
    have hk : e.1 ∈ (mkS b).map Int.ofNat := by rw [← S.keys]; exact List.mem_map_of_mem he
    obtain ⟨k', hk, e2⟩ := List.mem_map.mp hk
    rw [e1] at e2
    have := Int.ofNat.inj e2; subst this
    exact (List.mem_filter.mp hk).2
  · intro x
    have hk : Int.ofNat k ∈ es.map (·.1) := by rw [S.keys]; exact List.mem_map_of_mem ((mem_mkS k4).mpr x)
    obtain ⟨e, he, e1⟩ := List.mem_map.mp hk
    obtain ⟨t, q⟩ := S.vals e he
    exact ⟨e, he, by rw [q, e1]; exact intKind_is _ _ _ _⟩
theorem layNew_small {led : Bool} {b k : Nat} {es : Array (Int × Value)} {x : Value} (hb : b < 16) (k4 : k < 4) (hn : b.testBit k = false) (he : es.size = (mkS b).length) :
    layNew (sTab b led) es (Int.ofNat k) x = (SetTable.insertAt es (pS b k) (Int.ofNat k, x), sTab (b ||| 2 ^ k) led, false, false) := by
  have hz : (SetTable.insertAt es (pS b k) (Int.ofNat k, x)).size = (mkS (b ||| 2 ^ k)).length := by
    have h1 := (SetTable.insertAt_perm es (pS b k) (Int.ofNat k, x)).length_eq
    have h2 := congrArg List.length (f_ins b hb k k4 hn)
    simp only [Array.length_toList, Array.size_push] at h1
    simp only [List.length_append, List.length_cons, List.length_take, List.length_drop] at h2
    rw [h1, he]
    have : min (pS b k) (mkS b).length ≤ (mkS b).length := Nat.min_le_right _ _
    lia
  have hf := f_fits led _ (f_lt b hb k k4)
  unfold layNew
  rw [f_slot led b hb k k4 hn]
  dsimp only
  rw [f_put led b hb k k4 hn]
  dsimp only
  unfold SetTable.orStandIn
  rw [hz, hf]
  rfl
section
variable {prog : Program} {w : World} {A : Around} {E : Value → Shared → Prop} {s : Shared}
theorem sm_add {a : Addr} {b k : Nat} {led : Bool} {es : List (Int × Value)} {t : Tok} {Q : Bool → Shared → Prop} (hb : b < 16) (k4 : k < 4) (S : SmSet s.heap a b led es)
    (h : ∀ h' es', Heap.SameBut a s.heap h' → SmSet h' a (b ||| 2 ^ k) led es' → Q (!b.testBit k) { s with heap := h' }) :
    wpAny (model prog w) A (setAddHashed a (.int (Int.ofNat k) t) ((intKind prog w).hash (Int.ofNat k))) Q E s := by
  obtain ⟨ep, ho⟩ := S.ob
  have hf := S.fits hb
  have hel := S.elems (prog := prog) (w := w)
  have hfd := S.found (prog := prog) (w := w) k4
  have hl := S.len
  have h4 := f_len b hb
  have hkey := intKind_is prog w (Int.ofNat k) t
  have hby : byScan (.int (Int.ofNat k) t) es.toArray = true := byScan_of rfl (by rw [List.size_toArray, hl]; unfold scanBound; lia) hel
  unfold setAddHashed setAddHashedIn
  refine wpAny_holding (wpAny_bind (wpAny_setState_of ho rfl hf ?_))
  dsimp only
  rw [hby]
  simp only [↓reduceIte]
  unfold setAddByScan
  refine wpAny_bind ?_
  refine wpAny_bind (wpAny_rule ?_)
  refine wpAny_bind (wpAny_setScan_of hkey ho rfl hf hel ?_)
  rw [List.toList_toArray] at *
  induction hr : List.findIdx? (fun e => (intKind prog w).is (Int.ofNat k) e.2) es with
  | some j =>
    dsimp only
    obtain ⟨hj, hpj, _⟩ := List.findIdx?_eq_some_iff_getElem.mp hr
    have hSk : b.testBit k = true := hfd.mp ⟨es[j], List.getElem_mem hj, hpj⟩
    refine wpAny_pure (wpAny_pure ?_)
    have e : s = { s with heap := s.heap } := by rcases s with ⟨⟩; rfl
    have := h s.heap es (Heap.SameBut.refl a s.heap) (by rw [f_same b hb k k4 hSk]; exact S)
    rw [hSk] at this; rw [e]; exact this
  | none =>
    dsimp only
    have hSk : b.testBit k = false := by
      induction hk : b.testBit k with
      | false => rfl
      | true => obtain ⟨e, he, hp⟩ := hfd.mpr hk; have := List.findIdx?_eq_none_iff.mp hr e he; rw [hp] at this; exact Bool.noConfusion this
    have hh : (intKind prog w).hash (Int.ofNat k) = Int.ofNat k := f_hash k k4
    rw [hh, layNew_small hb k4 hSk (by rw [List.size_toArray]; exact hl)]
    dsimp only
    have hpl : (sTab (b ||| 2 ^ k) led).plain = true := rfl
    have hpl0 : (sTab b led).plain = true := rfl
    have hfull := f_full led _ (f_lt b hb k k4)
    have hins : (SetTable.insertAt es.toArray (pS b k) (Int.ofNat k, Value.int (Int.ofNat k) t)) = (es.take (pS b k) ++ (Int.ofNat k, Value.int (Int.ofNat k) t) :: es.drop (pS b k)).toArray := by
      apply Array.ext'
      rw [SetTable.toList_insertAt]
    rw [hins]
    refine wpAny_bind (wpAny_pure ?_)
    simp only [hpl, if_true]
    rw [hashByValue_scannable 8 (show (Value.int (Int.ofNat k) t).scannable = true from rfl)]
    refine wpAny_bind (wpAny_pure ?_)
    simp only [plainKind, if_true, hfull, Bool.and_false, Bool.false_eq_true, if_false]
    refine wpAny_bind (wpAny_storeSet_of ho rfl ?_ (by rw [List.size_toArray, List.length_append, List.length_cons, List.length_take, List.length_drop]; have : min (pS b k) es.length ≤ es.length := Nat.min_le_right _ _; rw [sizeLine_eq]; lia))
    refine wpAny_pure ?_
    dsimp only
    have := h _ (es.take (pS b k) ++ (Int.ofNat k, Value.int (Int.ofNat k) t) :: es.drop (pS b k)) (Heap.SameBut.update s.heap a (Obj.putSet (es.take (pS b k) ++ (Int.ofNat k, Value.int (Int.ofNat k) t) :: es.drop (pS b k)).toArray (sTab (b ||| 2 ^ k) led))) ⟨⟨ep + 1, ?_⟩, ?_, ?_⟩
    · rw [hSk] at this; exact wpAny_pure this
    · exact Heap.get?_update_self (Obj.putSet _ _) ho rfl
    · rw [List.map_append, List.map_cons, List.map_take, List.map_drop, S.keys, ← f_ins b hb k k4 hSk, List.map_append, List.map_cons, List.map_take, List.map_drop]
    · intro e he
      rcases List.mem_append.mp he with he | he
      · exact S.vals e (List.mem_of_mem_take he)
      · rcases List.mem_cons.mp he with rfl | he
        · exact ⟨t, rfl⟩
        · exact S.vals e (List.mem_of_mem_drop he)
end
end Mine.Internal
namespace Mine.Internal
open PySem PySem.W PyProof.Rows
noncomputable def mkOf (val : Nat → Nat) (i : Nat) : Nat := (List.range i).foldl (fun b j => b ||| 2 ^ (val j)) 0
theorem mkOf_succ (val : Nat → Nat) (i : Nat) : mkOf val (i + 1) = mkOf val i ||| 2 ^ (val i) := by
  unfold mkOf; rw [List.range_succ, List.foldl_append]; rfl
theorem mkOf_lt {val : Nat → Nat} {n : Nat} (h : ∀ i, i < n → val i < 4) : ∀ i, i ≤ n → mkOf val i < 16
  | 0 => @fun _ => by show 0 < 16; decide
  | i + 1 => @fun hi => by rw [mkOf_succ]; exact f_lt _ (mkOf_lt h i (by omega)) _ (h i (by omega))
section
variable {prog : Program} {w : World} {A : Around} {R : Result → Shared → Prop} {I : Addr} {fp wr : List Addr} {G : Array GenState → Array GenState → Prop} {n : Nat} {P : Nat → Value → Prop} {St : Nat → Shared → Prop}
theorem sm_loop (W : WalksS prog w A.in1 I fp wr G n P St) (S : Addr) (hSf : S ∉ fp) (led : Bool)
    (val : Nat → Nat) (hv4 : ∀ i, i < n → val i < 4) (hval : ∀ i v, i < n → P i v → ∃ t, v = .int (Int.ofNat (val i)) t) :
    ∀ (k i : Nat) (s : Shared) (es : List (Int × Value)), n - i = k → i ≤ n → St i s → SmSet s.heap S (mkOf val i) led es →
      (∀ s' es', Moved (S :: wr) G s s' → SmSet s'.heap S (mkOf val n) led es' → R (.ok (.ret .none)) s') →
      codeAny (model prog w) A (.builtin "set.update.loop" ⟨[.ref S, .ref I], []⟩) R s := by
  have hSw : S ∉ wr := fun h => hSf (W.sub _ h)
  have hsub : ∀ b ∈ wr, b ∈ S :: wr := fun b hb => List.mem_cons_of_mem _ hb
  intro k
  induction k with
  | zero =>
    intro i s es hk hi hst hS hR
    have hin : i = n := by omega
    subst hin
    refine codeAny_builtin PyProof.Rows.F.entry_set_update_loop ?_
    rw [Around.under_plainId PyProof.Rows.F.plain_set_update_loop _]
    show wpAny _ A.in1 (pyNext (.ref I) >>= _) _ _ s
    refine wpAny_bind (W.done s _ _ hst fun s' hm => ?_)
    show wpAny _ A.in1 (ret Value.none) _ _ s'
    obtain ⟨⟨ep, ho⟩, a, b⟩ := hS
    exact wpAny_pure (hR s' es (hm.mono hsub) ⟨⟨ep, hm.heap S _ hSw ho⟩, a, b⟩)
  | succ k ih =>
    intro i s es hk hi hst hS hR
    have hlt : i < n := by omega
    refine codeAny_builtin PyProof.Rows.F.entry_set_update_loop ?_
    rw [Around.under_plainId PyProof.Rows.F.plain_set_update_loop _]
    show wpAny _ A.in1 (pyNext (.ref I) >>= _) _ _ s
    refine wpAny_bind (W.item i s _ _ hlt hst fun v s' hP hst' hm => ?_)
    obtain ⟨t, rfl⟩ := hval i v hlt hP
    have hS' : SmSet s'.heap S (mkOf val i) led es := by
      obtain ⟨⟨ep, ho⟩, a, b⟩ := hS
      exact ⟨⟨ep, hm.heap S _ hSw ho⟩, a, b⟩
    show wpAny _ A.in1 (holding [Value.int (Int.ofNat (val i)) t] (setAdd S (.int (Int.ofNat (val i)) t)) >>= _) _ _ s'
    refine wpAny_bind (wpAny_holding ?_)
    unfold setAdd
    refine wpAny_holding ?_
    refine wpAny_bind ((intKind prog w).pyHash (k := Int.ofNat (val i)) (intKind_is _ _ _ _) ?_)
    refine sm_add (s := { s' with toks := s'.toks + 1 }) (mkOf_lt hv4 i (by omega)) (hv4 i hlt) hS' fun h' es' hsb hS2 => ?_
    rw [← mkOf_succ] at hS2
    refine wpAny_pure ⟨plainId_quiet PyProof.Rows.F.plain_set_update_loop _, ih (i + 1) _ es' (by omega) hlt (W.frame _ s' _ _ hst' (Nat.le_succ _) fun b hb o e => ?_) hS2 fun s'' es'' hm'' hS'' => ?_⟩
    · rw [hsb.2 b (fun h : b = S => hSf (by rw [← h]; exact hb))]; exact e
    · refine hR s'' es'' (Moved.trans W.gtrans ((hm.mono hsub).then_heap (Nat.le_succ _) fun b o hb e => ?_) hm'') hS''
      rw [hsb.2 b (fun h : b = S => hb (by rw [h]; exact List.mem_cons_self))]; exact e
end
section
variable {prog : Program} {w : World} {A : Around} {E : Value → Shared → Prop} {s : Shared}
theorem set_new_1 (a : Value) {Q₁ : Value → Shared → Prop}
    (h : Q₁ (.ref s.heap.objs.size) { s with heap := s.heap.push (sObj [] 0 0 (!(Setting.mk prog w.params).params.followText "set-order")) }) :
    codeAny (model prog w) A (.call (.builtin "set.__new__") ⟨[.type "set", a], []⟩) (wants Q₁ E) s := by
  refine codeAny_of_tree ?_
  show wpAny _ A.in1 (do checkBuiltinCall "set.__new__" ⟨[.type "set", a], []⟩; again (.builtin "set.__new__" ⟨[.type "set", a], []⟩)) _ _ s
  refine wpAny_bind (wpAny_of_eq (PySem.F.newCall_set_1 a) (wpAny_pure ⟨plainId_quiet PySem.F.plain_set_new _, codeAny_builtin PySem.F.entry_set_new ?_⟩))
  rw [Around.under_plainId PySem.F.plain_set_new _]
  unfold Builtin.«set.__new__» Builtin.Frozenset.newClass
  have hsub := sub_set_self
  obtain ⟨hp, g, d, tk, os⟩ := s
  dsimp only
  wp_walk
  refine wpAny_askSetting (wpAny_pure ?_)
  dsimp only
  simp only [newObj]
  refine wpAny_bind (wpAny_alloc (wpAny_pure ?_))
  exact wpAny_pure h
set_option maxHeartbeats 3200000 in
theorem call_set_small {l : Addr} {items : Array Value} {val : Nat → Nat} {Q : Value → Shared → Prop}
    (hh : A.handled = none) (hl : s.heap.IsList l items) (hv4 : ∀ i, i < items.size → val i < 4) (hval : ∀ (i : Nat) (v : Value), items[i]? = some v → ∃ t, v = .int (Int.ofNat (val i)) t)
    (h : ∀ (h' : Heap) (tk : Nat) es, SmSet h' s.heap.objs.size (mkOf val items.size) (!w.params.followText "set-order") es → Kp s.heap h' → Q (.ref s.heap.objs.size) { s with heap := h', toks := tk }) :
    wpAny (model prog w) A (call (.type "set") [.ref l]) Q E s := by
  obtain ⟨c, tl, hmro⟩ := PySem.F.called_set.mro
  have hmade := PySem.F.called_set.made
  have hsub := PySem.F.called_set.sub
  refine wpAny_call (codeAny_of_tree ?_)
  show wpAny _ _ (callAny (.type "set") _) _ _ _
  refine wpAny_pure ⟨Code.quiet_builtin _ (by decide +kernel), codeAny_builtin PySem.F.entry_type_call ?_⟩
  rw [Around.under_plain (weight_type_call_type "set" [.ref l] []) rfl]
  have h1 := PySem.F.called_set.notType
  have h2 := PySem.F.called_set.canCreate
  have hct := PySem.F.typeCall_set_1 (.ref l)
  repeat (any_goals (first | assumption | wp_step))
  refine codeAny_mono (set_new_1 (.ref l) (E := E) (Q₁ := fun obj s₁ => obj = .ref s.heap.objs.size ∧ s₁ = { s with heap := s.heap.push (sObj [] 0 0 (!w.params.followText "set-order")) }) ⟨rfl, rfl⟩) fun r s₁ hr => ?_
  generalize (!w.params.followText "set-order") = led at *
  induction r with
  | error e => exact hr
  | ok fl =>
    induction fl with
    | ret obj =>
      obtain ⟨rfl, rfl⟩ := hr
      have hS : (s.heap.push (sObj [] 0 0 led)).get? s.heap.objs.size = some (sObj [] 0 0 led) := Heap.get?_push_size _ rfl
      have hT : Shared.TypeIs { s with heap := s.heap.push (sObj [] 0 0 led) } (.ref s.heap.objs.size) "set" := ⟨_, hS, rfl⟩
      have hli := PySem.F.called_set.init.lookup
      have hbi := PySem.F.called_set.init.bind (.ref s.heap.objs.size)
      repeat (any_goals (first | assumption | wp_step))
      refine codeAny_mono (codeAny_call_builtin (R := wants (fun r s₂ => r = .none ∧ ∃ h' tk es, s₂ = { s with heap := h', toks := tk } ∧
          SmSet h' s.heap.objs.size (mkOf val items.size) led es ∧ Kp s.heap h') E) PySem.F.called_set.init.plain PySem.F.entry_set_init (check_set_init_1 hT ?_)) fun r₂ s₂ hr₂ => ?_
      · obtain ⟨ol, hol, hcl, nl, hdl⟩ := hl
        obtain ⟨ocls, odict, odata, oslots⟩ := ol
        simp only at hcl hdl
        subst hcl; subst hdl
        have hol' : (s.heap.push (sObj [] 0 0 led)).get? l = some { cls := .type "list", dict := odict, data := .seq items nl, slots := oslots } := Heap.get?_push_of_some _ hol
        have hsls := PySem.F.sub_list_set
        have hslf := PySem.F.sub_list_frozenset
        have hne : (Value.type "list" == Value.type "dict") = false := by decide
        have hl1 : (s.heap.push (sObj [] 0 0 led)).IsList l items := ⟨_, hol', rfl, nl, rfl⟩
        unfold Builtin.«set.__init__» noKeywords Builtin.Frozenset.updateFrom
        generalize hPI : pyIter = PI
        wp_walk
        subst hPI
        refine wpAny_pyIter_list hl1 ?_
        refine wpAny_bind (wpAny_runValue ?_)
        have hlS : l < s.heap.objs.size := Heap.lt_size hol
        have hh3 : A.in1.in1.in1.handled = none := by simp [hh]
        have hneI : l ≠ (s.heap.push (sObj [] 0 0 led)).objs.size := by
          rw [Heap.size_push]; exact Nat.ne_of_lt (Nat.lt_succ_of_lt hlS)
        have hSf : s.heap.objs.size ∉ [(s.heap.push (sObj [] 0 0 led)).objs.size, l] := by
          rw [Heap.size_push]; simp only [List.mem_cons, List.mem_singleton, List.not_mem_nil, or_false, not_or]
          exact ⟨Nat.ne_of_lt (Nat.lt_succ_self _), Nat.ne_of_gt hlS⟩
        refine sm_loop ((Walks.list hh3 _ l hneI items).toS) s.heap.objs.size
          hSf led val hv4 (fun i v hi hv => hval i v hv) (items.size - 0) 0 _ [] (by omega) (Nat.zero_le _)
          ⟨⟨_, Heap.get?_push_size _ rfl, rfl, rfl⟩, (hl1.push _)⟩ ?hS0 ?hR
        case hS0 =>
          have hget : ((s.heap.push (sObj [] 0 0 led)).push { cls := .type "list_iterator", data := .fields #[.ref l, .int 0 0] }).get? s.heap.objs.size
              = some (sObj [] 0 0 led) := Heap.get?_push_of_some _ hS
          exact ⟨⟨0, hget⟩, (by show [] = List.map Int.ofNat (mkS 0); decide), fun e he => nM he⟩
        case hR =>
          intro s' es' hm hS'
          obtain ⟨h', g', d', tk', os'⟩ := s'
          have eg : g' = s.gens := hm.gens
          have ed : d' = s.drawn := hm.drawn
          have eo : os' = s.os := hm.os
          subst eg; subst ed; subst eo
          show wpAny _ _ _ _ _ _
          refine wpAny_pure ?_
          show wpAny _ _ (ret Value.none) _ _ _
          refine wpAny_pure ⟨rfl, h', tk', es', rfl, hS', fun b o e => ?_⟩
          have hb : b < s.heap.objs.size := Heap.lt_size e
          have hb1 : b ≠ s.heap.objs.size := Nat.ne_of_lt hb
          have hb2 : b ≠ (s.heap.push (sObj [] 0 0 led)).objs.size := by
            rw [Heap.size_push]; exact Nat.ne_of_lt (Nat.lt_succ_of_lt hb)
          exact hm.heap b o (by simp only [List.mem_cons, List.mem_singleton, List.not_mem_nil, or_false, not_or]; exact ⟨hb1, hb2⟩) (Heap.get?_push_of_some _ (Heap.get?_push_of_some _ e))
      · induction r₂ with
        | error e => exact hr₂
        | ok fl₂ =>
          induction fl₂ with
          | ret r =>
            obtain ⟨rfl, h', tk, es, rfl, hS', hk'⟩ := hr₂
            repeat (any_goals (first | assumption | wp_step))
            exact h _ _ _ hS' hk'
          | _ => exact hr₂.elim
    | _ => exact hr.elim
end
end Mine.Internal
namespace Mine.Internal
open PySem PySem.W PyProof.Rows
theorem entry_set_iter : entryFor table "set.__iter__" = some Builtin.«frozenset.__iter__» :=
  entryFor_alias (id' := "frozenset.__iter__") (by kernel_rfl) rfl (by decide +kernel) (by kernel_rfl)
theorem entry_setit_next : entryFor table "set_iterator.__next__" = some Builtin.«set_iterator.__next__» := entryFor_of_tree (by kernel_rfl)
theorem entry_setit_iter : entryFor table "set_iterator.__iter__" = some Builtin.«dict_keyiterator.__iter__» :=
  entryFor_alias (id' := "dict_keyiterator.__iter__") (by kernel_rfl) rfl (by decide +kernel) (by kernel_rfl)
theorem slot_setit_next : Slot "set_iterator" "__next__" "set_iterator.__next__" :=
  .of (owner := "set_iterator") (n := "__next__") (by rw [typeLookup_type, builtinLookup_eq_fast]; kernel_rfl) (by decide +kernel) (by decide +kernel) (by decide +kernel)
    (by first | exact .inl (by decide +kernel) | exact .inr (by decide +kernel)) (by rw [isSubtype_type]; kernel_rfl)
theorem slot_setit_iter : Slot "set_iterator" "__iter__" "set_iterator.__iter__" :=
  .of (owner := "set_iterator") (n := "__iter__") (by rw [typeLookup_type, builtinLookup_eq_fast]; kernel_rfl) (by decide +kernel) (by decide +kernel) (by decide +kernel)
    (by first | exact .inl (by decide +kernel) | exact .inr (by decide +kernel)) (by rw [isSubtype_type]; kernel_rfl)
theorem args_setit_next (a : Value) : argsOk "set_iterator.__next__" ⟨[a], []⟩ := by unfold argsOk; kernel_rfl
theorem args_setit_iter (a : Value) : argsOk "set_iterator.__iter__" ⟨[a], []⟩ := by unfold argsOk; kernel_rfl
noncomputable def slAt (b : Nat) : Nat → Nat
  | 0 => 0
  | i + 1 => (mkS b).getD i 0 + 1
theorem f_below : ∀ b, b < 16 → ∀ i, i < 5 → i ≤ (mkS b).length → SetTable.below (mkS b).toArray (slAt b i) = i := by decide +kernel
noncomputable def sOrd (bt : Bool) (f : Nat → Nat) (es : List (Int × Value)) : List (Int × Value) := if bt then (pickOrder f es.toArray).toList else es
noncomputable def sSl (bt : Bool) (b i : Nat) : Nat := if bt then 0 else slAt b i
noncomputable def itObj (S : Addr) (n i sl ep : Nat) : Obj := { cls := .type "set_iterator", dict := none, data := .fields #[rawInt (sl : Nat), rawInt (i : Nat), .ref S, rawInt (n : Nat), rawInt (ep : Nat)], slots := #[] }
theorem pick_s {α : Type} {f : Nat → Nat} {n k : Nat} {left : List α} {out : Array α} {x : α} (h : left[f k % left.length]? = some x) : pickOrder.go f (n + 1) k left out = pickOrder.go f n (k + 1) (left.eraseIdx (f k % left.length)) (out.push x) :=
  (show pickOrder.go f (n + 1) k left out = @Option.casesOn α (fun _ => Array α) left[f k % left.length]? out fun x => pickOrder.go f n (k + 1) (left.eraseIdx (f k % left.length)) (out.push x) by kernel_rfl).trans (congrArg (fun o => @Option.casesOn α (fun _ => Array α) o out fun x => pickOrder.go f n (k + 1) (left.eraseIdx (f k % left.length)) (out.push x)) h)
theorem pick_go {α : Type} (f : Nat → Nat) : ∀ (n k : Nat) (left : List α) (out : Array α), left.length = n → (pickOrder.go f n k left out).toList.Perm (out.toList ++ left)
  | 0 => @fun k left out h => by
    rw [List.eq_nil_of_length_eq_zero h, List.append_nil]; exact .refl _
  | n + 1 => @fun k left out h => by
    have hlt : f k % left.length < left.length := Nat.mod_lt _ (by lia)
    rw [pick_s (List.getElem?_eq_getElem hlt)]
    refine (pick_go f n (k + 1) _ _ (by rw [List.length_eraseIdx_of_lt hlt]; lia)).trans ?_
    rw [Array.toList_push, List.append_assoc]
    refine List.Perm.append_left _ ?_
    generalize f k % left.length = i at hlt ⊢
    have e : left = left.take i ++ left[i] :: left.drop (i + 1) := by rw [List.getElem_cons_drop, List.take_append_drop]
    have e2 : left.eraseIdx i = left.take i ++ left.drop (i + 1) := List.eraseIdx_eq_take_drop_succ ..
    rw [e2]
    conv => rhs; rw [e]
    rw [List.singleton_append]
    exact List.perm_middle.symm
theorem sOrd_perm (bt : Bool) (f : Nat → Nat) (es : List (Int × Value)) : (sOrd bt f es).Perm es := by
  unfold sOrd
  rcases bt with ⟨⟩
  · exact .refl _
  · simp only [if_true]
    delta pickOrder
    refine (pick_go f _ _ _ _ (by simp)).trans ?_
    simp
section
variable {prog : Program} {w : World} {A : Around} {E : Value → Shared → Prop} {s : Shared}
noncomputable abbrev bT (w : World) : Bool := w.params.followText "set-order"
theorem sm_next {S : Addr} {b ep i : Nat} {es : List (Int × Value)} {Q : Option (Value × Nat) → Shared → Prop} (hb : b < 16) (H : SmSet s.heap S b (!bT w) es) (ho : s.heap.get? S = some (sObj es ep b (!bT w))) (hi : i ≤ es.length)
    (h : Q (match (sOrd (bT w) (w.params.setOrder S ep) es)[i]? with | some e => some (e.2, sSl (bT w) b (i + 1)) | none => none) s) :
    wpAny (model prog w) A (setNext S (sSl (bT w) b i) i ep) Q E s := by
  have hf := H.fits hb
  have hl := H.len
  delta setNext
  refine wpAny_bind (wpAny_setState_of ho rfl hf ?_)
  unfold setsByText
  refine wpAny_bind (wpAny_bind (wpAny_askSetting (wpAny_pure ?_)))
  show wpAny _ _ (if bT w = true then _ else _) _ _ _
  by_cases hbt : bT w = true
  · rw [if_pos hbt]
    refine wpAny_ite_split (fun hab => absurd hab (by simp)) (fun _ => ?_)
    unfold setWalk
    refine wpAny_bind (wpAny_bind (wpAny_setState_of ho rfl hf ?_))
    unfold setsByText
    refine wpAny_bind (wpAny_bind (wpAny_askSetting (wpAny_pure ?_)))
    show wpAny _ _ (if bT w = true then _ else _) _ _ _
    rw [if_pos hbt]
    refine wpAny_bind (wpAny_askSetting (wpAny_pure (wpAny_pure ?_)))
    rw [hbt] at h ⊢
    simp only [sOrd, sSl, if_true] at h ⊢
    rw [← Array.getElem?_toList]
    show Q (Option.map (fun e => (e.2, 0)) ((pickOrder (w.params.setOrder S ep) es.toArray).toList[i]?)) _
    induction q : ((pickOrder (w.params.setOrder S ep) es.toArray).toList)[i]? with
    | none => rw [q] at h; exact h
    | some e => rw [q] at h; exact h
  · have hbf : bT w = false := by simpa using hbt
    rw [if_neg hbt]
    refine wpAny_ite_split (fun hab => absurd (show false = true from hab) (by decide)) (fun _ => ?_)
    refine wpAny_bind (wpAny_ite_split (fun hab => absurd hab (by rw [hbf]; simp [sTab])) (fun _ => wpAny_pure ?_))
    have h4 := f_len b hb
    have hbel := f_below b hb i (by lia) (by lia)
    rw [hbf] at h ⊢
    simp only [sOrd, sSl, Bool.false_eq_true, if_false] at h
    show wpAny _ _ (pure (match es.toArray[SetTable.below (mkS b).toArray (slAt b i)]?, (mkS b).toArray[SetTable.below (mkS b).toArray (slAt b i)]? with | some (_, x), some j => some (x, j + 1) | _, _ => none)) _ _ _
    rw [hbel, List.getElem?_toArray, List.getElem?_toArray]
    refine wpAny_pure ?_
    rcases Nat.lt_or_ge i es.length with hlt | hge
    · have hlt' : i < (mkS b).length := by lia
      rw [List.getElem?_eq_getElem hlt] at h ⊢
      rw [List.getElem?_eq_getElem hlt']
      simp only [slAt, List.getD_eq_getElem?_getD, List.getElem?_eq_getElem hlt', Option.getD_some] at h
      exact h
    · rw [List.getElem?_eq_none hge] at h ⊢
      exact h
end
end Mine.Internal
namespace Mine.Internal
open PySem PySem.W PyProof.Rows
section
variable {prog : Program} {w : World} {A : Around} {E : Value → Shared → Prop} {s : Shared}
noncomputable def SmIt (w : World) (I S : Addr) (b ep : Nat) (es : List (Int × Value)) (i : Nat) (h : Heap) : Prop :=
  SmSet h S b (!bT w) es ∧ h.get? S = some (sObj es ep b (!bT w)) ∧ h.get? I = some (itObj S es.length i (sSl (bT w) b i) ep)
theorem sm_pyNext_item {I S : Addr} {b ep i : Nat} {es : List (Int × Value)} {e : Int × Value} {Q : Option Value → Shared → Prop} (hb : b < 16) (hne : S ≠ I) (st : SmIt w I S b ep es i s.heap) (hi : i < es.length) (he : (sOrd (bT w) (w.params.setOrder S ep) es)[i]? = some e)
    (hQ : ∀ h', SmIt w I S b ep es (i + 1) h' → (∀ c o, c ≠ I → s.heap.get? c = some o → h'.get? c = some o) → Q (some e.2) { s with heap := h' }) :
    wpAny (model prog w) A (pyNext (.ref I)) Q E s := by
  obtain ⟨hS, ho, hit⟩ := st
  have hT : s.TypeIs (.ref I) "set_iterator" := ⟨_, hit, rfl⟩
  unfold pyNext
  refine wpAny_bind (wpAny_attempt (wpAny_callSpecial?_slot (name := Str.ofString "__next__") hT slot_setit_next
    (wpAny_call_entry slot_setit_next hT entry_setit_next ?_ (args_setit_next _))))
  show wpAny _ _ (fieldsOf (.ref I) >>= _) _ _ s
  refine wpAny_bind (wpAny_fieldsOf hit rfl ?_)
  show wpAny _ _ (setEntries S >>= _) _ _ s
  refine wpAny_bind (wpAny_setEntries_of ho rfl (hS.fits hb) ?_)
  refine wpAny_ite_split (fun hab => absurd hab (by simp)) (fun _ => ?_)
  show wpAny _ _ (setNext S (Int.toNat (sSl (bT w) b i : Nat)) (Int.toNat (i : Nat)) (Int.toNat (ep : Nat)) >>= _) _ _ s
  simp only [Int.toNat_natCast]
  refine wpAny_bind (sm_next hb hS ho (by lia) ?_)
  rw [he]
  dsimp only
  show wpAny _ _ (setField (.ref I) 0 (rawInt (sSl (bT w) b (i + 1) : Nat)) >>= _) _ _ s
  refine wpAny_bind (wpAny_setField_rec hit (by simp) fun h₁ hit₁ hs₁ => ?_)
  show wpAny _ _ (setField (.ref I) 1 (rawInt ((i : Nat) + 1)) >>= _) _ _ _
  refine wpAny_bind (wpAny_setField_rec (s := { s with heap := h₁ }) hit₁ (by simp) fun h₂ hit₂ hs₂ => ?_)
  refine wpAny_pure ⟨e.2, rfl, wpAny_pure (hQ h₂ ⟨?_, ?_, ?_⟩ ?_)⟩
  · exact ⟨⟨ep, hs₂.extBut _ _ hne (hs₁.extBut _ _ hne ho)⟩, hS.keys, hS.vals⟩
  · exact hs₂.extBut _ _ hne (hs₁.extBut _ _ hne ho)
  · rw [hit₂]; simp [itObj, rawInt]
  · exact fun c o n x => hs₂.extBut _ _ n (hs₁.extBut _ _ n x)
theorem sm_pyNext_end {I S : Addr} {b ep : Nat} {es : List (Int × Value)} {Q : Option Value → Shared → Prop} (hh : A.handled = none) (hb : b < 16) (st : SmIt w I S b ep es es.length s.heap)
    (hQ : ∀ h', (∀ c o, c ≠ I → s.heap.get? c = some o → h'.get? c = some o) → Q none { s with heap := h' }) :
    wpAny (model prog w) A (pyNext (.ref I)) Q E s := by
  obtain ⟨hS, ho, hit⟩ := st
  have hT : s.TypeIs (.ref I) "set_iterator" := ⟨_, hit, rfl⟩
  unfold pyNext
  refine wpAny_bind (wpAny_attempt (wpAny_callSpecial?_slot (name := Str.ofString "__next__") hT slot_setit_next
    (wpAny_call_entry slot_setit_next hT entry_setit_next ?_ (args_setit_next _))))
  show wpAny _ _ (fieldsOf (.ref I) >>= _) _ _ s
  refine wpAny_bind (wpAny_fieldsOf hit rfl ?_)
  show wpAny _ _ (setEntries S >>= _) _ _ s
  refine wpAny_bind (wpAny_setEntries_of ho rfl (hS.fits hb) ?_)
  refine wpAny_ite_split (fun hab => absurd hab (by simp)) (fun _ => ?_)
  show wpAny _ _ (setNext S (Int.toNat (sSl (bT w) b es.length : Nat)) (Int.toNat (es.length : Nat)) (Int.toNat (ep : Nat)) >>= _) _ _ s
  simp only [Int.toNat_natCast]
  refine wpAny_bind (sm_next hb hS ho (by lia) ?_)
  rw [List.getElem?_eq_none (by rw [(sOrd_perm _ _ _).length_eq]; exact Nat.le_refl _)]
  dsimp only
  show wpAny _ _ (setField (.ref I) 2 .none >>= _) _ _ s
  refine wpAny_bind (wpAny_setField_rec hit (by simp) fun h₁ hit₁ hs₁ => ?_)
  show wpAny _ _ (newExc (.type "StopIteration") [] >>= _) _ _ _
  refine wpAny_bind ?_
  simp only [newExc, newTuple]
  refine wpAny_bind (wpAny_newObj_type ?_ (by size_fits))
  refine wpAny_bind (m := firstArgMember _ _) (wpAny_of_eq (a := Value.none) (by first | rfl | (simp only [firstArgMember]; rfl)) ?_)
  refine wpAny_newObj_type ?_ (by size_fits)
  delta raiseNew
  refine wpAny_bind (wpAny_handled ?_)
  rw [show A.in1.handled = none from hh]
  refine wpAny_bind (wpAny_pure (wpAny_throw ?_))
  refine wpAny_bind (wpAny_isInstance (T := "StopIteration") (b := true) ⟨_, Heap.get?_push_size _ rfl, rfl⟩ isSubtype_stop ?_)
  exact wpAny_pure (hQ _ ((hs₁.extBut.push _).push _))
theorem sm_self {I S : Addr} {b ep i : Nat} {es : List (Int × Value)} {Q : Value → Shared → Prop} (st : SmIt w I S b ep es i s.heap) (h : Q (.ref I) s) : wpAny (model prog w) A (pyIter (.ref I)) Q E s := by
  have hT : s.TypeIs (.ref I) "set_iterator" := ⟨_, st.2.2, rfl⟩
  refine wpAny_pyIter_slot hT slot_setit_iter (wpAny_call_entry slot_setit_iter hT entry_setit_iter ?_ (args_setit_iter _))
  show wpAny _ _ (ret (.ref I)) _ _ s
  exact wpAny_pure ⟨_, rfl, "set_iterator", _, hT, slot_setit_next.lookup, h⟩
theorem SmIt.at {I S : Addr} {b ep i : Nat} {es : List (Int × Value)} {h h' : Heap} (st : SmIt w I S b ep es i h) (k : ∀ c ∈ [I, S], ∀ o, h.get? c = some o → h'.get? c = some o) : SmIt w I S b ep es i h' :=
  ⟨⟨⟨ep, k S (by simp) _ st.2.1⟩, st.1.keys, st.1.vals⟩, k S (by simp) _ st.2.1, k I (by simp) _ st.2.2⟩
theorem sm_walks (hh : A.handled = none) {I S : Addr} {b ep : Nat} {es : List (Int × Value)} (hb : b < 16) (hne : S ≠ I) :
    Walks prog w A I [I, S] [I] es.length (fun i v => ∃ e, (sOrd (bT w) (w.params.setOrder S ep) es)[i]? = some e ∧ e.2 = v) (fun i h => SmIt w I S b ep es i h) where
  sub := fun b hb => by simp at hb; simp [hb]
  frame := fun _ _ _ st hk => st.at hk
  item := fun i s Q E hi st hQ => by
    have hlt : i < (sOrd (bT w) (w.params.setOrder S ep) es).length := by rw [(sOrd_perm _ _ _).length_eq]; exact hi
    refine sm_pyNext_item hb hne st hi (List.getElem?_eq_getElem hlt) fun h' st' k => ?_
    exact hQ _ h' s.toks ⟨_, List.getElem?_eq_getElem hlt, rfl⟩ st' fun b o hb e => k b o (fun h => hb (by simp [h])) e
  done := fun s Q E st hQ => sm_pyNext_end hh hb st fun h' k => hQ h' s.toks fun b o hb e => k b o (fun h => hb (by simp [h])) e
  self := fun _ _ _ _ st hQ => sm_self st hQ
theorem sm_iter {S : Addr} {b ep : Nat} {es : List (Int × Value)} {Q : Value → Shared → Prop} (hb : b < 16) (hS : SmSet s.heap S b (!bT w) es) (ho : s.heap.get? S = some (sObj es ep b (!bT w)))
    (h : Q (.ref s.heap.objs.size) { s with heap := s.heap.push (itObj S es.length 0 (sSl (bT w) b 0) ep) }) :
    wpAny (model prog w) A (pyIter (.ref S)) Q E s := by
  have hT : s.TypeIs (.ref S) "set" := ⟨_, ho, rfl⟩
  have hf := hS.fits hb
  refine wpAny_pyIter_slot hT PySem.F.slot_set_iter (wpAny_call_entry PySem.F.slot_set_iter hT entry_set_iter ?_ (PySem.F.args_set_iter_1 _))
  unfold Builtin.«frozenset.__iter__» Builtin.Frozenset.slot0 slotArgs
  simp only [List.isEmpty_nil, Bool.not_true, Bool.false_eq_true, ↓reduceIte, bind_assoc, List.length_nil, bne_self_eq_false]
  unfold Builtin.Frozenset.addrOf Builtin.Frozenset.sizeOf
  refine wpAny_bind (wpAny_pure ?_)
  try dsimp only
  refine wpAny_bind (wpAny_pure ?_)
  refine wpAny_bind (wpAny_bind (wpAny_setEntries_of ho rfl hf (wpAny_pure ?_)))
  unfold setDrawn
  refine wpAny_bind ?_
  refine wpAny_bind (wpAny_setState_of ho rfl hf ?_)
  unfold setsByText
  refine wpAny_bind (wpAny_bind (wpAny_askSetting (wpAny_pure ?_)))
  refine wpAny_pure ?_
  refine wpAny_ite_split (fun hab => absurd hab (by show ¬ ((!bT w && false) = true); simp)) (fun _ => wpAny_bind (wpAny_pure ?_))
  unfold setEpoch
  refine wpAny_bind (wpAny_bind (wpAny_setState_of ho rfl hf (wpAny_pure ?_)))
  have e0 : sSl (bT w) b 0 = 0 := by unfold sSl slAt; simp
  rw [e0] at h
  refine wpAny_bind (wpAny_newObj_type (wpAny_pure ⟨_, rfl, "set_iterator", _, ⟨_, Heap.get?_push_size _ rfl, rfl⟩, slot_setit_next.lookup, ?_⟩))
  rw [List.size_toArray]
  exact h
end
end Mine.Internal
namespace Mine.Internal
open PySem PySem.W PyProof.Rows
theorem ints_of_items {es : List (Int × Value)} (hv : ∀ e ∈ es, ∃ t, e.2 = .int e.1 t) : IntsAre (es.map (·.2)) (es.map (·.1)) := by
  induction es with
  | nil => exact .nil
  | cons e r ih =>
    obtain ⟨t, h⟩ := hv e (.head _)
    rw [List.map_cons, List.map_cons, h]
    exact .cons _ _ (ih fun x hx => hv x (.tail _ hx))
section
variable {prog : Program} {w : World} {A : Around} {E : Value → Shared → Prop} {s : Shared}
theorem hint_set {S : Addr} {Q : Bool → Shared → Prop} (hT : s.TypeIs (.ref S) "set") (h : Q false s) : wpAny (model prog w) A (Builtin.List.listLengthHint (.ref S)) Q E s := by
  unfold Builtin.List.listLengthHint
  refine wpAny_bind (wpAny_specialOf hT PySem.F.slot_set_len.lookup ?_)
  generalize hid : ("set.__len__" : String) = id0
  wp_delta
  rw [show splitId id0 = some ("set", "__len__") from by subst hid; decide +kernel]
  subst hid
  refine wpAny_bind (wpAny_isInstance (T := "set") (b := true) hT (by rw [isSubtype_type]; kernel_rfl) ?_)
  refine wpAny_ite_split (fun hab => absurd hab (by decide)) (fun _ => ?_)
  refine wpAny_ite_split (fun _ => ?_) (fun hab => absurd (show _ = true by decide +kernel) hab)
  refine wpAny_bind (wpAny_typeOf hT ?_)
  exact wpAny_pure h
theorem ext_set {R : Result → Shared → Prop} {L I S : Addr} {b ep : Nat} {es : List (Int × Value)} {res : Value} (hh : A.handled = none) (hb : b < 16) (hIS : S ≠ I) (hIL : L ≠ I) (hSL : L ≠ S) (st : SmIt w I S b ep es 0 s.heap)
    (hL : s.heap.get? L = some { cls := .type "list", data := .seq ([] : List Value).toArray })
    (hR : ∀ h' tk acc' c', (∀ c o, c ≠ L → c ≠ I → s.heap.get? c = some o → h'.get? c = some o) → h'.get? L = some { cls := .type "list", dict := none, data := .seq acc' c', slots := #[] } →
      acc'.toList = (sOrd (bT w) (w.params.setOrder S ep) es).map (·.2) → R (.ok (.ret res)) { s with heap := h', toks := tk }) :
    wpAny (model prog w) A.in1 (Builtin.List.listTouch (.ref L) >>= fun _ => again (.builtin "list.extend.loop" ⟨[.ref L, .ref I, res], []⟩))
      (fun fin s' => match fin with | .done f => R (.ok f) s' | .again c' => c'.quiet = true ∧ codeAny (model prog w) A c' R s') (fun e s' => R (.error e) s') s := by
  have h4 := f_len b hb
  have hl := st.1.len
  show wpAny _ A.in1 ((updateSeq L (·.push .none) >>= fun _ => updateSeq L (·.pop)) >>= _) _ _ _
  refine wpAny_bind (wpAny_bind (wpAny_updateSeq hL rfl ?_))
  have hL3 := Heap.get?_update_self (Obj.mapSeq (·.push Value.none)) hL rfl
  refine wpAny_updateSeq hL3 rfl ?_
  have hL4 := Heap.get?_update_self (Obj.mapSeq (·.pop)) hL3 rfl
  have oth : ∀ b o, b ≠ L → s.heap.get? b = some o →
      ((s.heap.update L (Obj.mapSeq (·.push Value.none))).update L (Obj.mapSeq (·.pop))).get? b = some o :=
    fun b o hb e => (Heap.get?_update_other _ _ (Ne.symm hb)).trans ((Heap.get?_update_other _ _ (Ne.symm hb)).trans e)
  have hLf : L ∉ [I, S] := by
    simp only [List.mem_cons, List.not_mem_nil, or_false, not_or]; exact ⟨hIL, hSL⟩
  have st4 : SmIt w I S b ep es 0 ((s.heap.update L (Obj.mapSeq (·.push Value.none))).update L (Obj.mapSeq (·.pop))) := st.at fun c hc o e => oth c o (fun q => hLf (q ▸ hc)) e
  refine wpAny_pure ⟨plainId_quiet PySem.F.plain_extend_loop _, codeAny_extend_loopS ((sm_walks (A := A.in1) (by simpa using hh) hb hIS (ep := ep) (es := es)).toS) (by rw [sizeLine_eq]; lia) L hLf _ es.length 0 _ #[] _ rfl (Nat.zero_le _)
    st4 hL4 (ItemsOf.nil _) fun s' acc' c' hm hL' hacc => ?_⟩
  obtain ⟨h', g', d', tk', os'⟩ := s'
  have eg : g' = s.gens := hm.gens
  have ed : d' = s.drawn := hm.drawn
  have eo : os' = s.os := hm.os
  subst eg; subst ed; subst eo
  refine hR h' tk' acc' c' (fun c o n1 n2 e => ?_) hL' ?_
  · exact hm.heap c o (by simp only [List.mem_cons, List.not_mem_nil, or_false, not_or]; exact ⟨n1, n2⟩) (oth _ _ n1 e)
  · apply List.ext_getElem?
    intro i
    rw [Array.getElem?_toList, List.getElem?_map]
    rcases Nat.lt_or_ge i es.length with hlt | hge
    · have : i < acc'.size := by rw [hacc.1]; exact hlt
      obtain ⟨e, he, e2⟩ := hacc.2 i _ (Array.getElem?_eq_getElem this)
      rw [Array.getElem?_eq_getElem this, he, ← e2]; rfl
    · rw [Array.getElem?_eq_none (by rw [hacc.1]; exact hge), List.getElem?_eq_none (by rw [(sOrd_perm _ _ _).length_eq]; exact hge)]; rfl
theorem collect_set {S : Addr} {b : Nat} {es : List (Int × Value)} {Q : List Value → Shared → Prop} (hh : A.handled = none) (hb : b < 16) (hS : SmSet s.heap S b (!bT w) es)
    (hQ : ∀ vs h' tk, Kp s.heap h' → (∃ ms, IntsAre vs ms ∧ ms.Perm ((mkS b).map Int.ofNat)) → Q vs { s with heap := h', toks := tk }) :
    wpAny (model prog w) A (collect (.ref S)) Q E s := by
  obtain ⟨ep, ho⟩ := hS.ob
  have hT : ∀ {s : Shared}, s.heap.get? S = some (sObj es ep b (!bT w)) → s.TypeIs (.ref S) "set" := fun h => ⟨_, h, rfl⟩
  have hSlt : S < s.heap.objs.size := Heap.lt_size ho
  have hSL : s.heap.objs.size ≠ S := Nat.ne_of_gt hSlt
  unfold collect
  refine wpAny_bind (wpAny_runValue (codeAny_builtin PySem.F.entry_proto_collect ?_))
  rw [Around.under_plainId PySem.F.plain_proto_collect _]
  show wpAny _ A.in1 (newList [] >>= fun l => again (.builtin "list.__iadd__" ⟨[l, .ref S], []⟩)) _ _ s
  refine wpAny_bind (wpAny_newObj_type ?_)
  refine wpAny_pure ⟨plainId_quiet PySem.F.plain_list_iadd _, codeAny_builtin PySem.F.entry_list_iadd ?_⟩
  rw [Around.under_plainId PySem.F.plain_list_iadd _]
  have ho1 : (s.heap.push { cls := .type "list", data := .seq ([] : List Value).toArray }).get? S = some (sObj es ep b (!bT w)) := Heap.get?_push_of_some _ ho
  show wpAny _ A.in1 (Builtin.List.listExtendWith (.ref s.heap.objs.size) (.ref S) (.ref s.heap.objs.size)) _ _ _
  unfold Builtin.List.listExtendWith
  refine wpAny_bind (wpAny_typeOf (hT ho1) ?_)
  have h1 : Builtin.List.listSameRef (.ref s.heap.objs.size) (.ref S) = false := by simp [Builtin.List.listSameRef, hSL]
  have h2 : (Value.type "set" == Value.type "list") = false := by decide
  have h3 : (Value.type "set" == Value.type "tuple") = false := by decide
  simp only [h1, h2, h3, Bool.or_false, Bool.false_eq_true, if_false]
  have hS1 : SmSet (s.heap.push { cls := .type "list", data := .seq ([] : List Value).toArray }) S b (!bT w) es := ⟨⟨ep, ho1⟩, hS.keys, hS.vals⟩
  refine wpAny_bind (sm_iter (s := { s with heap := s.heap.push { cls := .type "list", data := .seq ([] : List Value).toArray } }) hb hS1 ho1 ?_)
  have ho2 : ((s.heap.push { cls := .type "list", data := .seq ([] : List Value).toArray }).push (itObj S es.length 0 (sSl (bT w) b 0) ep)).get? S = some (sObj es ep b (!bT w)) := Heap.get?_push_of_some _ ho1
  refine wpAny_bind (wpAny_holding (hint_set (hT ho2) ?_))
  refine wpAny_ite_split (fun _ => ?_) (fun hab => absurd (by decide +kernel) hab)
  refine wpAny_bind (wpAny_rule ?_)
  have zI : (s.heap.push { cls := .type "list", data := .seq ([] : List Value).toArray }).objs.size = s.heap.objs.size + 1 := Heap.size_push ..
  have hL1 : (s.heap.push { cls := .type "list", data := .seq ([] : List Value).toArray }).get? s.heap.objs.size = some { cls := .type "list", data := .seq ([] : List Value).toArray } := Heap.get?_push_size _ rfl
  have kp2 : Kp s.heap ((s.heap.push { cls := .type "list", data := .seq ([] : List Value).toArray }).push (itObj S es.length 0 (sSl (bT w) b 0) ep)) := (Kp.push _ _).trans (Kp.push _ _)
  have hIS : S ≠ (s.heap.push { cls := .type "list", data := .seq ([] : List Value).toArray }).objs.size := Nat.ne_of_lt (Heap.lt_size ho1)
  have hIL : s.heap.objs.size ≠ (s.heap.push { cls := .type "list", data := .seq ([] : List Value).toArray }).objs.size := Nat.ne_of_lt (Heap.lt_size hL1)
  have fin' : ∀ h' tk acc' c', (∀ c o, c ≠ s.heap.objs.size → c ≠ (s.heap.push { cls := .type "list", data := .seq ([] : List Value).toArray }).objs.size → ((s.heap.push { cls := .type "list", data := .seq ([] : List Value).toArray }).push (itObj S es.length 0 (sSl (bT w) b 0) ep)).get? c = some o → h'.get? c = some o) →
      h'.get? s.heap.objs.size = some { cls := .type "list", dict := none, data := .seq acc' c', slots := #[] } → acc'.toList = (sOrd (bT w) (w.params.setOrder S ep) es).map (·.2) →
     wpAny (model prog w) A (match Value.ref s.heap.objs.size with
      | Value.ref a => do
        match (← load a).data with
          | Data.seq xs _ => pure xs.toList
          | _ => unsupported "internal:collect"
      | _ => unsupported "internal:collect") Q E { s with heap := h', toks := tk } := fun h' tk acc' c' k' hL' el => by
    show wpAny _ A (load s.heap.objs.size >>= _) _ _ _
    refine wpAny_bind (wpAny_load hL' ?_)
    refine wpAny_pure (hQ acc'.toList h' tk (fun c o e => ?_) ?_)
    · have hc : c < s.heap.objs.size := Heap.lt_size e
      refine k' c o (Nat.ne_of_lt hc) ?_ (kp2 _ _ e)
      exact Nat.ne_of_lt (Heap.lt_size (Heap.get?_push_of_some { cls := .type "list", data := .seq ([] : List Value).toArray } e))
    · rw [el]
      have pm := sOrd_perm (bT w) (w.params.setOrder S ep) es
      refine ⟨_, ints_of_items fun e he => hS.vals e (pm.mem_iff.mp he), ?_⟩
      rw [← hS.keys]
      exact pm.map _
  refine wpAny_mono (ext_set (A := A) (s := { s with heap := (s.heap.push { cls := .type "list", data := .seq ([] : List Value).toArray }).push (itObj S es.length 0 (sSl (bT w) b 0) ep) })
    (R := fun r s' => r = .ok (.ret (.ref s.heap.objs.size)) ∧ ∃ h' tk acc' c', (∀ c o, c ≠ s.heap.objs.size → c ≠ (s.heap.push { cls := .type "list", data := .seq ([] : List Value).toArray }).objs.size → ((s.heap.push { cls := .type "list", data := .seq ([] : List Value).toArray }).push (itObj S es.length 0 (sSl (bT w) b 0) ep)).get? c = some o → h'.get? c = some o) ∧
      h'.get? s.heap.objs.size = some { cls := .type "list", dict := none, data := .seq acc' c', slots := #[] } ∧ acc'.toList = (sOrd (bT w) (w.params.setOrder S ep) es).map (·.2) ∧ s' = { s with heap := h', toks := tk }) hh hb hIS hIL hSL
    ⟨⟨⟨ep, ho2⟩, hS.keys, hS.vals⟩, ho2, Heap.get?_push_size _ rfl⟩ (Heap.get?_push_of_some _ hL1) fun h' tk acc' c' k' hL' el => ⟨rfl, h', tk, acc', c', k', hL', el, rfl⟩) (fun fin s' h => ?_) (fun e s' h => absurd h.1 (by simp))
  induction fin with
  | done f =>
    obtain ⟨e, h', tk, acc', c', k, g, i, rfl⟩ := h
    rcases e with ⟨⟩
    exact fin' _ _ _ _ k g i
  | again c' => exact ⟨h.1, codeAny_mono h.2 fun r s'' hr => by obtain ⟨rfl, h', tk, acc', c', k, g, i, rfl⟩ := hr; exact fin' _ _ _ _ k g i⟩
end
end Mine.Internal
namespace Mine.Internal
open PySem PySem.W PyProof.Rows
theorem mkOf_bit (val : Nat → Nat) (k : Nat) : ∀ i, (mkOf val i).testBit k = (List.range i).any (fun j => val j == k)
  | 0 => by simp [mkOf]
  | i + 1 => by
    rw [mkOf_succ, Nat.testBit_or, mkOf_bit val k i, List.range_succ, List.any_append, Nat.testBit_two_pow]
    congr 1
    by_cases h : val i = k <;> simp [h]
theorem mkS_setMs {is : List Int} (h : ∀ i ∈ is, 0 ≤ i ∧ i < 4) : (mkS (mkOf (fun i => (is.getD i 0).toNat) is.length)).map Int.ofNat = setMs is := by
  unfold mkS setMs
  congr 1
  refine List.filter_congr fun k hk => ?_
  rw [mkOf_bit, Bool.eq_iff_iff, List.any_eq_true, List.any_eq_true]
  constructor
  · rintro ⟨j, hj, e⟩
    have hj' := List.mem_range.mp hj
    have hm : is[j] ∈ is := List.getElem_mem hj'
    have hb := h _ hm
    refine ⟨is[j], hm, ?_⟩
    have e' : (is.getD j 0).toNat = k := by simpa using e
    rw [List.getD_eq_getElem?_getD, List.getElem?_eq_getElem hj'] at e'
    simp only [Option.getD_some] at e'
    have : is[j] = Int.ofNat k := by show is[j] = (k : Int); lia
    simp [this]
  · rintro ⟨x, hx, e⟩
    obtain ⟨j, hj, rfl⟩ := List.getElem_of_mem hx
    refine ⟨j, List.mem_range.mpr hj, ?_⟩
    have e' : is[j] = Int.ofNat k := by simpa using e
    rw [List.getD_eq_getElem?_getD, List.getElem?_eq_getElem hj]
    simp [e']
theorem val4 {is : List Int} (h : ∀ i ∈ is, 0 ≤ i ∧ i < 4) : ∀ i, i < is.length → (is.getD i 0).toNat < 4 := fun i hi => by
  have := h _ (List.getElem_mem hi)
  rw [List.getD_eq_getElem?_getD, List.getElem?_eq_getElem hi]
  simp only [Option.getD_some]; lia
theorem setMs_sorted {is : List Int} (h : ∀ i ∈ is, 0 ≤ i ∧ i < 4) : sortI (setMs is) = setMs is := by
  rw [← mkS_setMs h]
  exact f_sort _ (mkOf_lt (val4 h) _ (Nat.le_refl _))
section
variable {prog : Program} {w : World} {A : Around} {s : Shared} {O : Addr → Prop}
theorem p_sortset {is : List Int} {a : Value} {Q : Value → Shared → Prop} {E : Value → Shared → Prop} (hh : A.handled = none) (l : Live s.heap O) (ra : Rep s.heap O (.lst (is.map .int)) a) (hi : ∀ i ∈ is, 0 ≤ i ∧ i < 4)
    (k : ∀ r h' tk, Kp s.heap h' → Rep h' O (.lst ((setMs is).map .int)) r → Q r { s with heap := h', toks := tk }) :
    wpAny (model prog w) A (call (.type "set") [a]) (fun zv s1 => wpAny (model prog w) A (call (.builtin "sorted") [zv]) Q E s1) E s := by
  obtain ⟨b, its, n, rfl, nb, g, hl, r⟩ := ra
  have hia := ints_of_rep r
  have hlen : its.length = is.length := ints_len hia
  have hb16 : mkOf (fun i => (is.getD i 0).toNat) is.length < 16 := mkOf_lt (val4 hi) _ (Nat.le_refl _)
  refine call_set_small (val := fun i => (is.getD i 0).toNat) hh (isList_of g) (fun i hi' => val4 hi i (by rw [List.size_toArray, hlen] at hi'; exact hi')) (fun i v e => ?_) fun h' tk es S kp => ?_
  · have e' : its[i]? = some v := by simpa using e
    have hi' : i < is.length := by rw [← hlen]; exact (List.getElem?_eq_some_iff.mp e').1
    obtain ⟨t, q⟩ := hia.int_at i v e'
    subst q
    have hb := hi _ (List.getElem_mem hi')
    refine ⟨t, ?_⟩
    congr 1
    show is.getD i 0 = (((is.getD i 0).toNat : Nat) : Int)
    rw [List.getD_eq_getElem?_getD, List.getElem?_eq_getElem hi']
    simp only [Option.getD_some]; lia
  · rw [show its.toArray.size = is.length by rw [List.size_toArray, hlen]] at S
    have h4 := f_len _ hb16
    have := p_sorted (prog := prog) (w := w) (A := A) (s := { s with heap := h', toks := tk }) (O := O) (v := .ref s.heap.objs.size) (ns := setMs is)
      (fun b x => by obtain ⟨o, e⟩ := l b x; exact ⟨o, kp b o e⟩) (by rw [← mkS_setMs hi, List.length_map]; lia)
      (fun Q E kk => collect_set (A := A.in1) (by simpa using hh) hb16 S fun vs h2 tk2 kp2 hm => kk vs h2 tk2 kp2 (by rw [← mkS_setMs hi]; exact hm)) Q E
    refine this fun r' h2 tk2 kp2 rr => k r' h2 tk2 (kp.trans kp2) ?_
    rw [setMs_sorted hi] at rr
    exact rr
end
theorem n_sortset {c : Cx} (ok : c.OK) (gl : c.Gl) {A : Around} {cl : Nat} {sc : Sc} {X F : Addr → Prop} {env : Env} {P : Prog} {C : CallT} {r : EV} {K : CE → Expr → Bool} {a : CE} {ea : Expr} {p p2 p3 pos : Pos} (rm : Room A cl) (IHE : ∀ ce e, K ce e = true → OkE c A sc X F env e (fun l h => r.E l h ce))
    (h : chkL K [a] [ea] = true) (g1 : isG sc "sorted" = true) (g2 : isG sc "set" = true) :
    OkE c A sc X F env (.Call (.Name "sorted" p) [.Call (.Name "set" p2) [ea] [] p3] [] pos) (fun l h => stepE P C r l h (.sortset a)) := fun O ad loc hp s rv hp' Q S e k => by
  refine obn_e e fun x hp1 e1 e => ?_
  refine Call_Name rfl (load_boot (v := .builtin "sorted") ok S.sr S.en (isG_of g1) (gl.blt _ (by decide)) (by decide +kernel) (by decide +kernel) (by decide +kernel) ?_)
  have hs : ∀ e ∈ [Expr.Call (.Name "set" p2) [ea] [] p3], notStar e = true := fun e m => List.mem_singleton.mp m ▸ rfl
  refine Calls.callWith_builtin rfl (evalArgs_sp hs (args_cons ?_ rfl))
  refine Call_Name rfl (load_boot (v := .type "set") ok S.sr S.en (isG_of g2) (gl.blt _ (by decide)) (by decide +kernel) (by decide +kernel) (by decide +kernel) ?_)
  refine PySem.callWith_type (noneStar env p3 h) (evalArgs_sp (chkL_star h) (n_args p3 IHE h S (evR_cons e1 rfl) fun vs s1 O1 ad1 H1 t1 p1 r1 => ?_))
  obtain ⟨v1, _, rfl, r1a, rfl⟩ := r1
  refine rLst_e e r1a fun xs r1a e => vS_e e fun z e2 e => vS_e e2 fun is e3 e2 => oIf_e e2 fun hi e2 => ?_
  simp only [Bool.and_eq_true, List.all_eq_true, decide_eq_true_eq] at hi
  rw [intsOf_eq e3] at r1a
  cases Option.some.inj e2
  exact wpAny_mono (p_sortset rm.h H1.live r1a hi.1 fun r h' tk kp rr => ((k.of e).trans t1 p1) r _ O1 ad1 (H1.stay (tk := tk) kp) (Step.stay kp) (.refl _) rr) (fun zv s2 hz => args_nil hz) (fun _ _ x => x)
theorem special_ok {c : Cx} (ok : c.OK) (gl : c.Gl) : Special c where
  tupzip := fun rm IHE h g1 g2 => n_tupzip ok gl rm IHE h g1 g2
  sortset := fun rm IHE h g1 g2 => n_sortset ok gl rm IHE h g1 g2
end Mine.Internal
namespace Mine.Internal
open PySem PySem.W PyProof.Rows
variable {c : Cx} {A : Around} {sc : Sc} {O O1 X X' F : Addr → Prop} {env : Env} {ad ad1 : AdT} {hp hp1 hp' : Hp} {loc loc' loc2 : Loc} {s s1 : Shared} {cl : Nat} {flds : List Nat}
theorem cellsFrom_none : ∀ {names : List (Str × NameKind)} {n : Nat} {acc : List (Str × Addr)}, (∀ x ∈ names, x.2 ≠ .cell) → cellsFrom n names acc = acc
  | [], n, acc => @fun _ => rfl
  | (x, k) :: r, n, acc => @fun h => by
    unfold cellsFrom
    rw [if_neg (by simpa using h (x, k) (.head _))]
    exact cellsFrom_none fun y m => h y (.tail _ m)
theorem call_attrAt {code : Code} {o : Expr} {name : Str} {apos pos : Pos} {es : List Expr} {Q : Value → Shared → Prop} (hl : (apos.endLine == pos.line) = true) (hs : ∀ e ∈ es, notStar e = true) (hn : es.length < 30)
    (h : _root_.PySem.wpAt (model c.prog c.w) A code (attributeBase o name env (eval o env)) (fun ov s1 => ∀ pl : Sem Bool, wpAny (model c.prog c.w) A (getMethod ov name pl) (fun p s2 => wpAny (model c.prog c.w) A (callWith pos p.1 p.2 (backTo pos (starEach es env)) []) Q NoE s2) NoE s1) NoE s) :
    _root_.PySem.wpAt (model c.prog c.w) A code (eval (.Call (.Attribute o name apos) es [] pos) env) Q NoE s := by
  rw [arm_eval_Call]
  refine _root_.PySem.wpAt_bind (_root_.PySem.wpAt_mono h (fun ov s₁ h₁ => _root_.PySem.wpAt_of_wpAny ?_) fun _ _ e => e)
  refine wpAny_bind (wpAny_standAt ?_)
  have hfew : methodCallForm (es.length + ([] : List Keyword).length) (backTo pos (starEach es env)) (backToKw pos (keywordEach [] env)) = true := by
    unfold methodCallForm
    rw [all_plain hs]
    simpa [show backToKw pos (keywordEach [] env) = [] from rfl] using hn
  unfold methodCall
  rw [hfew]
  refine wpAny_bind (wpAny_holding (wpAny_mono (h₁ _) (fun p s2 h2 => ?_) fun _ _ e => e))
  have hp : methodCallPos true o env apos pos = pure pos := by
    unfold methodCallPos
    rw [hl]; rfl
  show wpAny _ A (methodCallPos true o env apos pos >>= _) Q NoE s2
  rw [hp]
  exact wpAny_bind (wpAny_pure h2)
structure SupRel (c : Cx) (flds : List Nat) (f : Nat) (fd : FnC) (Fd : FuncData) (as : List Arg) (kwd : List (Option Expr)) (k g : Nat) (ces : List CE) (es : List Expr) (rest : List Stmt) (p0 p1 apos pos epos : Pos) (D cda cc : Addr) : Prop where
  fr : FnRel c f fd Fd as kwd (.Expr (.Call (.Attribute (.Call (.Name "super" p0) [] [] p1) "__init__" apos) es [] pos) epos :: rest)
  fn : c.P.fn[f]? = some fd
  sup : fd.sup = some (k, g, ces)
  k3 : k < 3
  self : ∃ x0 xs a as', fd.params = x0 :: xs ∧ as = a :: as' ∧ Fd.scope.names.lookup (c.nm x0) = some .local
  line : (apos.endLine == pos.line) = true
  few : es.length < 30
  args : ∃ n, chkL (chkE c.toNm flds n Fd.scope.names) ces es = true
  rest : ∃ n, chkSL (chkS c.toNm flds n Fd.scope.names) fd.body rest = true
  cell : Fd.closure.lookup ("__class__" : Str) = some cc
  nocell : ∀ x ∈ Fd.scope.names, x.2 ≠ .cell
  kcell : ∃ oc od sl, c.K.lookup cc = some ⟨oc, od, .cell (some (.ref D)), sl⟩
  code : Fd.code = .ref cda
  kcode : ∃ oc od vs sl file tf, c.K.lookup cda = some ⟨oc, od, .fields vs, sl⟩ ∧ vs[2]? = some (.str file tf) ∧ ((c.prog.main.file : Str) == file) = true
  kD : ∃ cd, clsIn c.K D = some cd
  sub : mroIn c.K (c.cA k) (.ref D) = some true
  look : ks_superIn c.K (c.cA k) D "__init__" = some (some (.ref (c.fA g)))
  fnty : typeIn c.K (.ref (c.fA g)) = some (.type "function")
  isfn : fnIn c.K (c.fA g) = true
  opq : nsIn c.K cStatics "thirdparty.any" = some none
  ksuper : Fd.scope.names.lookup ("super" : Str) = some .globalImplicit
  kclass : Fd.scope.names.lookup ("__class__" : Str) = some .free
  top : (c.prog.main.scope.names.lookup ("super" : Str)).isSome = false
theorem get_super {so D x C f : Addr} {name : Str} {pl : Sem Bool} {K : Frag} {w : World} {prog : Program} {E : Value → Shared → Prop} {Q : Value × List Value → Shared → Prop} (X : K.In s.heap) (hso : s.heap.get? so = some (ks_superObj D x C)) {ox : Obj} {odx : Option Obj} (I : InstAt s.heap x ox C odx)
    (ho : nsIn K cStatics "thirdparty.any" = some none) (hm : ks_superIn K C D name = some (some (.ref f))) (ht : typeIn K (.ref f) = some (.type "function")) (hn : (name == ("__class__" : Str)) = false)
    (h : Q (.ref s.heap.objs.size, []) { s with heap := s.heap.push (methodObj (.ref f) (.ref x)), toks := s.toks + 1 }) : wpAny (model prog w) A (getMethod (.ref so) name pl) Q E s := by
  obtain ⟨hh, g, d, t, os⟩ := s
  induction hc : clsIn K C with
  | none => unfold ks_superIn at hm; rw [hc] at hm; exact nS hm
  | some cd =>
    unfold ks_superIn at hm
    rw [hc] at hm
    obtain ⟨of, hof, hofc⟩ : ∃ of, hh.get? f = some of ∧ of.cls = .type "function" := by
      have ht' : (K.lookup f).map (·.cls) = some (.type "function") := ht
      induction z : K.lookup f with
      | none => rw [z] at ht'; cases ht'
      | some of => rw [z] at ht'; exact ⟨of, X _ _ z, Option.some.inj ht'⟩
    refine ks_wpAny_getMethod_super hso (looks_opaque X ho) (l₀ := cd.mro) ?_ rfl X hm hof hofc (ks_ne X I hc) hn h
    exact fun A Q E s k q => wpAny_bind ((looks_clsIn X hc) A _ E s k (wpAny_pure q))
theorem step_out {s2 : Shared} {O2 : Addr → Prop} (t1 : Step s.heap O s1.heap O) (nF : ∀ b, F b → s.heap.get? b = none) (t2 : Step s1.heap (U O F) s2.heap (U O2 F)) : Step s.heap O s2.heap O2 :=
  ⟨fun b o nb e => by
    have g1 := t1.keep b o nb e
    exact t2.keep b o (fun z => z.elim (fun z => t1.not e nb z) fun z => by rw [nF b z] at e; injection e) g1, fun b z => by
    rcases t2.grow b (.inl z) with (q | q) | q
    · exact t1.grow b q
    · exact .inr (nF b q)
    · induction z' : s.heap.get? b with
      | none => exact .inr rfl
      | some o =>
        by_cases nb : O b
        · exact .inl nb
        · rw [t1.keep b o nb z'] at q; injection q⟩
theorem sup_ok (B : Base c flds) (en : EnumOk c) {f : Nat} {fd : FnC} {Fd : FuncData} {as : List Arg} {kwd : List (Option Expr)} {k g : Nat} {ces : List CE} {es : List Expr} {rest : List Stmt} {p0 p1 apos pos epos : Pos} {D cda cc : Addr}
    (sr : SupRel c flds f fd Fd as kwd k g ces es rest p0 p1 apos pos epos D cda cc) : SupOk c f fd := fun cl okC A rm X O ad args hp s vs rv hp' R H r ev kk => by
  have ok := B.ok
  refine hide fun G hG => ?_
  refine vS_e ev fun fd' hf' ev => vS_e ev fun loc hz ev => ?_
  obtain rfl : fd = fd' := Option.some.inj (sr.fn.symm.trans hf')
  unfold bodyGo at ev
  rw [sr.sup] at ev
  obtain ⟨a0, tl, rfl⟩ : ∃ a tl, args = a :: tl := by
    induction args with
    | nil => exact nS ev
    | cons a tl => exact ⟨a, tl, rfl⟩
  obtain ⟨va, vr, rfl, ra, rtl⟩ := r
  revert hz
  obtain ⟨i, rfl⟩ : ∃ i, a0 = .ref i := by
    cases a0 with
    | val _ => exact nS ev
    | ref i => exact ⟨i, rfl⟩
  intro hz
  obtain ⟨a, w, ea, rfl⟩ := ra
  refine hIn_e ev fun q fs hi ev => oIf_e ev fun hq ev => obn_e ev fun avs hp1 e1 ev => obn_e ev fun rn hp2 e2 ev5 => ?_
  cases (show q = k from hq)
  obtain ⟨x0, xs, ar, as', hx, rfl, hx0⟩ := sr.self
  have har : ar.arg = c.nm x0 := by
    have := sr.fr.args
    rw [hx] at this
    simpa using (List.cons.inj this).1
  refine hG ?_
  refine fn_enter ok sr.fr rm H (show RepRVs s.heap (U O X) ad (.ref i :: tl) _ from ⟨_, _, rfl, ⟨a, w, ea, rfl⟩, rtl⟩) hz fun F env s1 S1 t1 nF henv => ?_
  refine hide fun G hG => ?_
  have hfun : env.func = some (c.fA f) := by rw [henv]; rfl
  have hcode : env.code = .ref cda := by rw [henv]; exact sr.code
  have hkind : ∀ n, env.kindOf n = Fd.scope.names.lookup n := fun n => by rw [henv]; rfl
  have hcells : env.cells = Fd.closure := by rw [henv]; exact cellsFrom_none sr.nocell
  clear henv
  obtain ⟨a1, a2, a3⟩ := rm.deeper env
  have SEB := fun d => sound_E B a1 a2 a3 okC d
  have X₁ := ok.kin.keeps S1.sr.keep
  obtain ⟨oc, od, sl, ho⟩ := sr.fr.obj
  obtain ⟨occ, odc, vsc, slc, file, tf, hcd, hvs, hfile⟩ := sr.kcode
  obtain ⟨ocl, odl, sll, hcc⟩ := sr.kcell
  obtain ⟨cdD, hD⟩ := sr.kD
  obtain ⟨oD, hD1, hD2⟩ : ∃ oD, s1.heap.get? D = some oD ∧ oD.data = .cls cdD := by
    unfold clsIn at hD
    split at hD
    · rename_i ho; obtain rfl := Option.some.inj hD; exact ⟨_, X₁ _ _ ho, rfl⟩
    · exact nS hD
  obtain ⟨_, hw, na, hg, ess, n, hd, _⟩ := S1.sr.hr.obj i _ a w hi ea
  have I := inst_at hg hd
  have hl0 : lookupL x0 loc = some (.ref i) := by
    unfold zipL at hz
    split at hz
    · obtain rfl := Option.some.inj hz; rw [hx]; simp [lookupL]
    · exact nS hz
  obtain ⟨_, v0, ⟨a', w', ea', rfl⟩, hv0⟩ := S1.lo x0 _ hl0
  rw [ea] at ea'; cases ea'
  rcases hv0 with ⟨hk0, m, hm, hmv⟩ | ⟨hk0, _⟩
  case inr => rw [hkind, hx0] at hk0; rcases hk0 with z | z <;> cases z
  obtain ⟨na', hargs⟩ := sr.args
  refine hG ?_
  refine ks_codeAny_funcAt (_root_.PySem.wpAt_mono (E := NoE) (Q := fun f s' => R (.ok (.ret (match f with | .ret v => v | _ => .none))) s') ?_ (fun _ _ x => x) fun _ _ x => x.elim)
  refine ks_wpAt_execs_cons (ks_wpAt_Expr_any ?_ (by unfold interactive; rw [S1.en.kind]; rfl) rfl)
  refine call_attrAt sr.line (chkL_star hargs) sr.few ?_
  refine ks_wpAt_super_base (by rw [hkind]; exact sr.ksuper) (by rw [hkind]; exact sr.kclass) (by decide) hfun (X₁ _ _ ho) rfl (by rw [sr.fr.params]; rfl) hcode (X₁ _ _ hcd) rfl hvs hfile sr.top ?_
  refine ks_loadName_global S1.en.kind (by rw [hkind]; exact sr.ksuper) ?_
  refine Calls.loadGlobal_builtin (mg := c.mg) (mb := c.mb) (by rw [S1.en.glob]; exact ok.g.keeps S1.sr.keep) (B.gl.blt "super" (by decide)) (by rw [S1.en.blt]; exact ok.b.keeps S1.sr.keep) (v := .type "super") (by rw [ok.bt _ (by decide +kernel)]; exact PyProof.Rows.Boot.«super») ⟨rfl, ?_⟩
  refine wpAny_loadName_free S1.en.kind (by rw [hkind]; exact sr.kclass) (by rw [hcells]; exact sr.cell) ⟨_, X₁ _ _ hcc, rfl⟩ ?_
  refine wpAny_loadName_local S1.en.kind (by rw [har, hkind]; exact hx0) hm (by rw [har]; exact hmv) ?_
  obtain ⟨hh, gg, dd, tt, os⟩ := s1
  refine ks_wpAny_isType_cls hD1 hD2 ⟨rfl, ?_⟩
  refine ks_wpAny_call_super hD1 hD2 I.at_ I.cls (fun cd e => ?_) (looks_mroIn X₁ sr.sub) (fun h' e kp => ?_)
  · have := I.no
    unfold notCls at this
    rw [e] at this
    exact Bool.noConfusion this
  intro pl
  have S2 := S1.kp (tk := tt) (h' := h') kp
  have X₂ := ok.kin.keeps S2.sr.keep
  refine get_super X₂ e (inst_at (kp _ _ hg) (kp _ _ hd)) sr.opq sr.look sr.fnty (by decide) ?_
  have kp3 : Kp h' (h'.push (methodObj (.ref (c.fA g)) (.ref a))) := Kp.push _ _
  have S3 := S2.kp (tk := tt + 1) (h' := h'.push (methodObj (.ref (c.fA g)) (.ref a))) kp3
  have hq : (h'.push (methodObj (.ref (c.fA g)) (.ref a))).get? h'.objs.size = some (methodObj (.ref (c.fA g)) (.ref a)) := Heap.get?_push_size _ rfl
  have nq : ¬ O h'.objs.size := fun z => by obtain ⟨o, e⟩ := S2.sr.oin _ z; rw [size_none] at e; injection e
  refine callWith_of (P := MethP c.K h'.objs.size (c.fA g) (.ref a)) (by rw [noneStar env pos hargs]; rfl) (keeps_M sr.isfn) (evalArgs_sp (chkL_star hargs) (n_args pos (fun ce e h => (SEB bodyDepth).1 na' _ X F env ce e h) hargs S3 e1 fun vs4 s4 O4 ad4 H4 t4 p4 r4 => ⟨⟨t4.keep _ _ nq hq, ok.kin.keeps H4.keep⟩, ?_⟩))
  refine wpAny_call (method_call (t4.keep _ _ nq hq) ?_)
  refine okC _ ⟨a1, by lia, by lia⟩ X O4 ad4 g (.ref i :: avs) _ s4 (.ref a :: ([] ++ vs4)) rn hp2 _ H4 ⟨_, _, rfl, ⟨a, w, p4 _ _ ea, rfl⟩, r4⟩ e2 fun v s5 O5 ad5 H5 t5 p5 r5 => rNone_e ev5 r5 fun ev5 => vS_e ev5 fun ⟨out, l2, h2⟩ e3 e4 => ?_
  show _root_.PySem.wpAt _ _ _ (execs rest env) _ NoE s5
  obtain ⟨nr, hrest⟩ := sr.rest
  refine _root_.PySem.wpAt_of_wpAny (n_block (fun X cs st h => sound_S B en a1 a2 a3 okC bodyDepth nr _ X F env cs st h) hrest X _ _ _ _ _ _ _ _ _ (S3.step H5 (t4.trans t5) (p4.trans p5)) e3 fun s6 O6 ad6 fl S6 t6 p6 r6 => ?_)
  have t16 := step_out t1 nF (((Step.stay (fun y o e => kp3 y o (kp y o e))).av F).trans (((t4.trans t5).av F).trans t6))
  induction out with
  | next => subst r6; cases e4; exact kk .none s6 O6 ad6 S6.sr t16 ((p4.trans p5).trans p6) rfl
  | ret rv1 =>
    obtain ⟨v, rfl, rr⟩ := r6
    cases e4
    exact kk v s6 O6 ad6 S6.sr t16 ((p4.trans p5).trans p6) rr
end Mine.Internal
namespace Mine.Internal
open PySem PySem.W PyProof.Rows
theorem fnCore_e {c : Cx} {f : Nat} {fd : FnC} {Fd : FuncData} {body : List Stmt} (h : fnCore c.toNm c.K Fd fd.params = true) (ho : ∃ oc od sl, c.K.lookup (c.fA f) = some ⟨oc, od, .func Fd, sl⟩) (hb : Fd.body = .stmts body)
    (fr : ∀ n, Fd.scope.names.lookup n = some .free → ∃ a, Fd.closure.lookup n = some a) (cl : ∀ n a, Fd.closure.lookup n = some a → ∃ oc od v sl, c.K.lookup a = some ⟨oc, od, .cell v, sl⟩) (ci : ∀ n n' a, Fd.closure.lookup n = some a → Fd.closure.lookup n' = some a → n = n') :
    FnRel c f fd Fd Fd.params.args Fd.params.kw_defaults body :=
  an_e h fun h1 h => an_e h fun h2 h => an_e h fun h3 h => an_e h fun h4 h => an_e h fun h5 h => an_e h fun h6 h => an_e h fun h7 h => an_e h fun h8 h9 =>
    have s := scOK_e h3
    ⟨ho, argsOf_e h1, noVal_e h2, hb, s.1, s.2.1, s.2.2.1, beq_iff_eq.mp h4, beq_iff_eq.mp h5, h6, s.2.2.2, beq_iff_eq.mp h7, of_decide_eq_true h8, fun x hx => an_e (List.all_eq_true.mp h9 x hx) fun a b => ⟨of_decide_eq_true a, (Bool.or_eq_true _ _ ▸ b).imp beq_iff_eq.mp beq_iff_eq.mp⟩, fr, cl, ci⟩
noncomputable def cxN (K : Frag) (w : World) (s₁ : Shared) (mg mb : Str → Option Value) : Cx := { nm0 with prog := PySem.Challenge.pw_no0309_01, w := w, K := K, s₀ := s₁, mg := mg, mb := mb, P := prog, fA := fA0, cA := cA0 }
theorem chkAll_of {K : Frag} (h : chkAll K = true) : gChk K = true ∧ cChk K 0 = true ∧ cChk K 1 = true ∧ cChk K 2 = true ∧ (∀ p ∈ fnTab, (p.1.sup.isNone && fnChk nm0 fldsT K (fA0 p.2) p.1) = true) ∧ supChk nm0 fldsT K (fA0 23) f_LexOrder_init 1 22 sup23 = true ∧ supChk nm0 fldsT K (fA0 29) f_Increasing_init 2 22 sup29 = true := by
  unfold chkAll at h
  rw [Bool.and_eq_true, Bool.and_eq_true, Bool.and_eq_true, Bool.and_eq_true, Bool.and_eq_true, Bool.and_eq_true, List.all_eq_true] at h
  exact h
theorem no_super : (PySem.Challenge.pw_no0309_01.main.scope.names.lookup ("super" : Str)).isSome = false := by kernel_rfl
end Mine.Internal
namespace Mine.Internal
open PySem PySem.W PyProof.Rows
section
variable {K : Frag} {w : World} {s₁ : Shared} {mg mb : Str → Option Value}
theorem nm_inj : ∀ x y, x < nmT.length → y < nmT.length → nmOf x = nmOf y → x = y := by
  have h : ((List.range nmT.length).all fun x => (List.range nmT.length).all fun y => !(nmOf x == nmOf y) || decide (x = y)) = true := by kernel_rfl
  intro x y hx hy e
  have := List.all_eq_true.mp (List.all_eq_true.mp h x (List.mem_range.mpr hx)) y (List.mem_range.mpr hy)
  rw [e] at this
  simpa using this
theorem nm_nodebug : ∀ x, x < nmT.length → (nmOf x == ("__debug__" : Str)) = false ∧ (nmOf x == ("__classdict__" : Str)) = false := by
  have h : ((List.range nmT.length).all fun x => !(nmOf x == ("__debug__" : Str)) && !(nmOf x == ("__classdict__" : Str))) = true := by kernel_rfl
  intro x hx
  have := List.all_eq_true.mp h x (List.mem_range.mpr hx)
  simpa using this
theorem cx_ok (KX : K.In s₁.heap) (hg : s₁.heap.Ns mainGlobals mg) (hb : s₁.heap.Ns builtinsNs mb) (hbt : ∀ x : Str, x ≠ "__name__" → mb x = bootBuiltins x) (hl : s₁.heap.NoLimit) : ((cxN K w s₁ mg mb)).OK where
  kin := KX
  g := hg
  b := hb
  bt := hbt
  lim := hl
  inj := nm_inj
  nodebug := fun x hx => (nm_nodebug x hx).1
  nocd := fun x hx => (nm_nodebug x hx).2
theorem fNm_lt {f : Nat} (h : fNm f ≠ "") : f < 44 := by
  unfold fNm at h
  by_cases q : f < 9 ∨ (33 ≤ f ∧ f < 44)
  · lia
  · rw [if_neg q] at h; exact absurd rfl h
theorem cNm_lt {k : Nat} (h : cNm k ≠ "") : k < 3 := by
  unfold cNm at h
  by_cases q : k < 3
  · exact q
  · rw [List.getD_eq_getElem?_getD, List.getElem?_eq_none (by simp; lia)] at h; exact absurd rfl h
theorem cx_gl (hC : chkAll K = true) (KX : K.In s₁.heap) (hg : s₁.heap.Ns mainGlobals mg) : ((cxN K w s₁ mg mb)).Gl := by
  have h := (chkAll_of hC).1
  unfold gChk at h
  simp only [Bool.and_eq_true, List.all_eq_true] at h
  obtain ⟨⟨h1, h2⟩, h3⟩ := h
  refine ⟨fun x hx => mg_none_of KX hg (beq_iff_eq.mp (h1 x hx)), fun f hf => ?_, fun k hk => ?_⟩
  · have hf' : fNm f ≠ "" := hf
    have := h2 f (List.mem_range.mpr (fNm_lt hf'))
    simp only [Bool.or_eq_true, beq_iff_eq, Bool.and_eq_true, Bool.not_eq_true'] at this
    rcases this with q | ⟨q1, q2, q3⟩
    · exact absurd q hf'
    · refine ⟨mg_of KX hg q1, q2, ?_⟩
      unfold fnIn at q3
      split at q3
      · rename_i e; exact ⟨_, _, KX _ _ e, rfl⟩
      · cases q3
  · have hk' : cNm k ≠ "" := hk
    have := h3 k (List.mem_range.mpr (cNm_lt hk'))
    simp only [beq_iff_eq, Bool.and_eq_true, Bool.not_eq_true'] at this
    exact ⟨mg_of KX hg this.1, this.2⟩
theorem cchk (hC : chkAll K = true) : ∀ k, k < 3 → cChk K k = true
  | 0 => @fun _ => (chkAll_of hC).2.1
  | 1 => @fun _ => (chkAll_of hC).2.2.1
  | 2 => @fun _ => (chkAll_of hC).2.2.2.1
  | k + 3 => @fun h => absurd h (by lia)
theorem mtab_ok : ∀ k, k < 3 → (mtab.getD k []).all (fun p => decide (p.1 < nmT.length)) = true := by decide +kernel
theorem methT_lt {k m f : Nat} (h : methT k m = some f) : k < 3 ∧ m < nmT.length := by
  unfold methT at h
  have hk : k < 3 := by
    refine Nat.lt_of_not_le fun q => ?_
    rw [List.getD_eq_getElem?_getD, List.getElem?_eq_none q] at h
    exact nomatch h
  obtain ⟨l1, l2, e, _⟩ := List.lookup_eq_some_iff.mp h
  exact ⟨hk, of_decide_eq_true (List.all_eq_true.mp (mtab_ok k hk) (m, f) (by rw [e]; simp))⟩
theorem initT_lt {k f : Nat} (h : initT k = some f) : k < 3 := by
  match k, h with
  | 0, _ | 1, _ | 2, _ => decide
  | k + 3, h => nomatch h
theorem cx_cl (hC : chkAll K = true) : ((cxN K w s₁ mg mb)).Cl fldsT := by
  have key : ∀ k, k < 3 → _ := fun k hk => cchk hC k hk
  refine ⟨fun k hk => ?_, fun k hk f hf => ?_, fun k m f e => ?_, fun k f e => ?_⟩
  · have h := key k hk
    unfold cChk at h
    simp only [Bool.and_eq_true, beq_iff_eq] at h
    obtain ⟨⟨⟨⟨⟨⟨⟨⟨a, b⟩, c⟩, d⟩, e⟩, f⟩, _⟩, _⟩, _⟩ := h
    exact ⟨a, b, c, d, e, f⟩
  · have h := key k hk
    unfold cChk at h
    simp only [Bool.and_eq_true, List.all_eq_true] at h
    have := h.1.1.2 f hf
    exact ⟨of_decide_eq_true this.1, beq_iff_eq.mp this.2⟩
  · obtain ⟨hk, hm⟩ := methT_lt e
    have h := key k hk
    unfold cChk at h
    simp only [Bool.and_eq_true, List.all_eq_true] at h
    have := h.1.2 m (List.mem_range.mpr hm)
    rw [show methT k m = some f from e] at this
    simp only [Bool.and_eq_true, beq_iff_eq] at this
    exact ⟨hk, hm, this.1.1, this.1.2, this.2⟩
  · have hk := initT_lt e
    have h := key k hk
    unfold cChk at h
    simp only [Bool.and_eq_true] at h
    have := h.2
    rw [show initT k = some f from e] at this
    simp only [Bool.and_eq_true, beq_iff_eq] at this
    exact ⟨hk, this.1, this.2⟩
theorem fn_ok {f : Nat} {fd : FnC} (h : fnChk nm0 fldsT K (fA0 f) fd = true) : FnOK ((cxN K w s₁ mg mb)) fldsT f fd := by
  obtain ⟨oc, od, d, sl, ho, h⟩ := onObj_e h
  revert ho
  refine onFunc_e h fun Fd h => an_e h fun h1 h => an_e h fun h2 h => an_e h fun h3 h ho => ?_
  obtain ⟨body, hb, h4⟩ := onBody_e h
  have z : Fd.closure = [] := List.isEmpty_iff.mp h2
  exact ⟨Fd, _, _, body, fnCore_e h1 ⟨oc, od, sl, ho⟩ hb (fun n e => absurd rfl (bne_iff_ne.mp (List.all_eq_true.mp h3 _ (mem_of_lookup e)))) (fun n a e => by rw [z] at e; exact nomatch e) (fun n n' a e => by rw [z] at e; exact nomatch e), 40, h4⟩
end
end Mine.Internal
namespace Mine.Internal
open PySem PySem.W PyProof.Rows
section
variable {K : Frag} {w : World} {s₁ : Shared} {mg mb : Str → Option Value}
theorem sup_of (B : Base ((cxN K w s₁ mg mb)) fldsT) (en : EnumOk ((cxN K w s₁ mg mb))) {f : Nat} {fd : FnC} {k g : Nat} {ces : List CE} (h : supChk nm0 fldsT K (fA0 f) fd k g ces = true) (hf : prog.fn[f]? = some fd) (hs : fd.sup = some (k, g, ces)) (hk : k < 3) : SupOk ((cxN K w s₁ mg mb)) f fd := by
  obtain ⟨oc, od, d, sl, ho, h⟩ := onObj_e h
  revert ho
  refine onFunc_e h fun Fd h => an_e h fun h1 h => an_e h fun h2 h => an_e h fun h3 h => an_e h fun h4 h => an_e h fun h5 h => an_e h fun h6 h => an_e h fun h7 h => an_e h fun h8 h9 ho => ?_
  obtain ⟨body, hb, h6⟩ := onBody_e h6
  obtain ⟨e, rest, epos, rfl, h6⟩ : ∃ e rest epos, body = .Expr e epos :: rest ∧ (supCall e fun es => chkL (chkE nm0 fldsT 40 Fd.scope.names) ces es && chkSL (chkS nm0 fldsT 40 Fd.scope.names) fd.body rest) = true := by
    induction body with
    | nil => exact nB h6
    | cons st rest => exact onEx_e h6 fun e epos h => ⟨e, rest, epos, rfl, h⟩
  revert hb
  refine onCall_e h6 fun fe es ks pos h => an_e h fun g1 h => nil_e g1 (onAttr_e h fun o z apos h => an_e h fun g2 h => an_e h fun g3 h => eq_e g3 (onFn_e h fun y p0 es0 p1 h => an_e h fun g4 h => an_e h fun g5 h => an_e h fun g6 h => an_e h fun g7 g8 => eq_e g4 (nil_e g5 fun hb => ?_)))
  obtain ⟨cc, hcl, h4⟩ : ∃ cc, Fd.closure = [(("__class__" : Str), cc)] ∧ (onObj K cc fun d => onCell d fun v => onV v (clsChk K k g)) = true := by
    match he : Fd.closure, h4 with
    | [(x, cc)], h4 => exact an_e h4 fun a b => ⟨cc, by rw [← beq_iff_eq.mp a], b⟩
    | [], h4 => exact nB h4
    | _ :: _ :: _, h4 => exact nB h4
  obtain ⟨occ, odc, dc, slc, hcc, h4⟩ := onObj_e h4
  obtain ⟨D, rfl, h4⟩ : ∃ D, dc = .cell (some (.ref D)) ∧ ((clsIn K D).isSome && ((mroIn K (cA0 k) (.ref D) == some true) && (ks_superIn K (cA0 k) D "__init__" == some (some (.ref (fA0 g)))))) = true :=
    onCell_e h4 fun v h => onV_e h fun v h => onRef_e h fun D h => ⟨D, rfl, h⟩
  obtain ⟨cda, hcode, h5⟩ : ∃ cda, Fd.code = .ref cda ∧ (onObj K cda fun d => onFields d fun vs => onV vs[2]? fun x => onStr x fun f => mainFile == f) = true := by
    revert h5
    generalize Fd.code = q
    exact fun h5 => onRef_e h5 fun D h => ⟨D, rfl, h⟩
  obtain ⟨od2, oc2, d2, sl2, hcd, h5⟩ := onObj_e h5
  obtain ⟨vs, rfl, file, tf, hvs, h5⟩ : ∃ vs, d2 = .fields vs ∧ ∃ file tf, vs[2]? = some (.str file tf) ∧ (mainFile == file) = true :=
    onFields_e h5 fun vs h => ⟨vs, rfl, by
      revert h
      generalize vs[2]? = q
      exact fun h => onV_e h fun v h => onStr_e h fun f t h => ⟨f, t, rfl, h⟩⟩
  obtain ⟨j1, j2, j3⟩ : Fd.scope.names.lookup ("super" : Str) = some .globalImplicit ∧ Fd.scope.names.lookup ("__class__" : Str) = some .free ∧ ∀ p ∈ Fd.scope.names, p.2 ≠ .cell ∧ (p.2 = .free → p.1 = ("__class__" : Str)) :=
    an_e h3 fun a h => an_e h fun b c => ⟨beq_iff_eq.mp a, beq_iff_eq.mp b, fun p hp => an_e (List.all_eq_true.mp c p hp) fun d e => ⟨fun q => by rw [q] at d; exact (nB d), fun q => by rw [q] at e; exact beq_iff_eq.mp e⟩⟩
  obtain ⟨hD, hsub, hlook⟩ : (∃ cd, clsIn K D = some cd) ∧ mroIn K (cA0 k) (.ref D) = some true ∧ ks_superIn K (cA0 k) D "__init__" = some (some (.ref (fA0 g))) :=
    an_e h4 fun a h => an_e h fun b c => ⟨Option.isSome_iff_exists.mp a, beq_iff_eq.mp b, beq_iff_eq.mp c⟩
  have hl1 : Fd.closure.lookup ("__class__" : Str) = some cc := by rw [hcl, List.lookup_cons, beq_self_eq_true]
  have hl2 : ∀ n a, Fd.closure.lookup n = some a → n = ("__class__" : Str) ∧ a = cc := fun n a e => by
    rw [hcl] at e
    cases mem_of_lookup e with
    | head => exact ⟨rfl, rfl⟩
    | tail _ m => cases m
  have FR := fnCore_e (c := (cxN K w s₁ mg mb)) (f := f) h1 ⟨oc, od, sl, ho⟩ hb (fun n e => ⟨cc, by rw [show n = ("__class__" : Str) from (j3 _ (mem_of_lookup e)).2 rfl]; exact hl1⟩) (fun n a e => (hl2 n a e).2 ▸ ⟨_, _, _, _, hcc⟩) (fun n n' a e e' => (hl2 n a e).1.trans (hl2 n' a e').1.symm)
  refine sup_ok (flds := fldsT) (rest := rest) (p0 := p0) (p1 := p1) (apos := apos) (pos := pos) (epos := epos) (D := D) (cda := cda) (cc := cc) B en ⟨FR, hf, hs, hk, ?_, g2, of_decide_eq_true g6, ⟨40, g7⟩, ⟨40, g8⟩, hl1, fun x hx => (j3 x hx).1, ⟨occ, odc, slc, hcc⟩, hcode, ⟨_, _, vs, _, file, tf, hcd, hvs, h5⟩, hD, hsub, hlook, beq_iff_eq.mp h7, h8, beq_iff_eq.mp h9, j1, j2, no_super⟩
  have ha := FR.args
  match hpp : fd.params, haa : Fd.params.args, h2, ha with
  | x0 :: xs, ar :: as, h2, _ => exact ⟨x0, xs, ar, as, rfl, rfl, beq_iff_eq.mp h2⟩
  | x0 :: xs, [], _, ha => exact (nomatch ha)
  | [], _, h2, _ => exact nB h2
theorem fns_ok (hC : chkAll K = true) (B : Base ((cxN K w s₁ mg mb)) fldsT) (en : EnumOk ((cxN K w s₁ mg mb))) : ∀ f fd, ((cxN K w s₁ mg mb)).P.fn[f]? = some fd → (fd.sup = none ∧ FnOK ((cxN K w s₁ mg mb)) fldsT f fd) ∨ SupOk ((cxN K w s₁ mg mb)) f fd := by
  intro f fd hf
  have C := chkAll_of hC
  by_cases e1 : f = 23
  · subst e1
    obtain rfl : f_LexOrder_init = fd := Option.some.inj hf
    exact .inr (sup_of B en C.2.2.2.2.2.1 rfl rfl (by decide))
  by_cases e2 : f = 29
  · subst e2
    obtain rfl : f_Increasing_init = fd := Option.some.inj hf
    exact .inr (sup_of B en C.2.2.2.2.2.2 rfl rfl (by decide))
  refine .inl (an_e (C.2.2.2.2.1 (fd, f) (List.mem_filter.mpr ⟨List.mem_zipIdx_iff_getElem?.mpr hf, ?_⟩)) fun a b => ⟨Option.isNone_iff_eq_none.mp a, fn_ok b⟩)
  show (f != 23 && f != 29) = true
  rw [bne_iff_ne.mpr e1, bne_iff_ne.mpr e2]; rfl
theorem calls_ok (hC : chkAll K = true) (KX : K.In s₁.heap) (hg : s₁.heap.Ns mainGlobals mg) (hb : s₁.heap.Ns builtinsNs mb) (hbt : ∀ x : Str, x ≠ "__name__" → mb x = bootBuiltins x) (hl : s₁.heap.NoLimit) : ∀ cl, OkC ((cxN K w s₁ mg mb)) cl (callN prog cl) := by
  have ok : ((cxN K w s₁ mg mb)).OK := cx_ok KX hg hb hbt hl
  have gl : ((cxN K w s₁ mg mb)).Gl := cx_gl hC KX hg
  have B : Base ((cxN K w s₁ mg mb)) fldsT := ⟨ok, gl, cx_cl hC, special_ok ok gl⟩
  exact sound_C B (enum_ok ok gl) (fns_ok hC B (enum_ok ok gl))
end
end Mine.Internal
set_option maxHeartbeats 8000000
namespace Mine.Internal
open PySem PySem.W PyProof.Rows
noncomputable def lawD : DefRec × List (Str × Expr) := match defOf view rowO.name with
  | some d => d
  | none => (⟨"", default, [], default, default⟩, [])
theorem head (walk : WalkO view [Str.ofString "has_domains"] (XL view []) myHook.says rowO.toRowW lawD.1 lawD.2 fun f vs => PySem.call f vs) : PySem.Challenge.rw_no0309_01.Holds := by
  refine holds_law (by decide +kernel) fun said => ?_
  refine PySem.W.holds_open (r := rowO) (q := view) (loose := [Str.ofString "has_domains"]) (Xt := fun s => xlAt view [] s && recOk (RowW.records rowO.toRowW) s) (XP := XL view []) (Yf := myHook.obs) (Ya := myHook.val) (YP := myHook.says) (d := lawD.1) (kwd := lawD.2) (N := 5476) left0 myHook.of myHook.keeps (fun s e => xl_of s (Bool.and_eq_true_iff.mp e).1) XL.keeps (by kernel_rfl) (by kernel_rfl) (by kernel_rfl) (fun s e => recFacts_of (Bool.and_eq_true_iff.mp e).2) (by rfl) (by first | assumption | decide +kernel) (by decide +kernel) ⟨rfl, rfl, rfl, rfl, rfl, by decide +kernel⟩ ?hw walk
  w_witness2
end Mine.Internal
set_option maxHeartbeats 4000000
namespace Mine.Internal
open PySem PySem.W PyProof.Rows
theorem well_list {P : Params} {h : Heap} {a : Addr} {xs : List WData} (x : Well P h (.ref a) (.list xs)) : ∃ vs : List Value, h.get? a = some { cls := .type "list", data := .seq vs.toArray } := by
  cases x with
  | list g _ => exact ⟨_, g⟩
theorem rep_ints {h : Heap} {O : Addr → Prop} {vs : List Value} {ns : List Int} (x : IntsAre vs ns) : RepL h O (ns.map .int) vs := by
  induction x with
  | nil => rfl
  | cons n t _ ih => exact ⟨_, _, rfl, ⟨t, rfl⟩, ih⟩
theorem law_join (LAW : ∀ ns : List Int, ns.length ≤ 63 → ∃ hp', callN prog 9 43 [.val (.lst (ns.map .int))] [] = some (.val (.bool true), hp')) : PySem.Challenge.rw_no0309_01.Holds := head (by
  intro w s₀ s₁ mg mb G Y fa o pm cd doc dV kV ho hd hcd hD hmg hg args vals as hpre hlay hrd hwl hlo
  obtain ⟨K, KX, hC⟩ := Y
  refine Ground.open G ?_
  intro T B D TE TW
  have OK := calls_ok (w := w) (s₁ := s₁) hC KX T.g T.b T.builtins T.nolimit 9
  have hfa : fa = 449 := by
    have e := (cx_gl (w := w) (mb := mb) hC KX T.g).fn 43 (show fNm 43 ≠ "" by decide +kernel)
    have e := e.1
    have e' : mg (fNm 43) = some (.ref fa) := hmg
    rw [show (cxN K w s₁ mg mb).mg = mg from rfl, show (cxN K w s₁ mg mb).fN 43 = fNm 43 from rfl, e'] at e; cases e; rfl
  subst hfa
  clear ho hd hD TE TW D B hmg hcd
  wrow_args hpre hlay hrd hwl hlo
  rename_i ns hs hlay0 hL1 hr1 hl2 w4 w3 a items w0 hL ra w1 r0 hI hr hcond hcond2
  obtain ⟨vs, hobj⟩ := well_list (show Well w.params s₁.heap (.ref a) (.list _) from w1)
  obtain ⟨ol, hol, _, nl, hld⟩ := hL
  rw [hobj] at hol; cases hol
  have hvs : vs = items := by
    have := (Data.seq.inj hld).1
    simpa using congrArg Array.toList this
  subst hvs
  have hlen : ns.length ≤ 63 := by lia
  obtain ⟨hp', ev⟩ := LAW ns hlen
  have H : SR (cxN K w s₁ mg mb) s₁ (fun _ => False) (fun _ => False) [] [] :=
    ⟨⟨s₁.heap, s₁.toks, rfl⟩, fun _ _ e => e, fun _ f => f.elim, fun _ f => f.elim, fun _ f => f.elim, ⟨rfl, List.Pairwise.nil, fun i o a w e => by simp at e⟩⟩
  have R : RepRVs s₁.heap (U (fun _ => False) (fun _ => False)) [] [.val (.lst (ns.map .int))] [.ref a] :=
    ⟨.ref a, [], rfl, ⟨a, vs, _, rfl, fun z => z.elim id id, hobj, by rw [ints_len hI]; lia, rep_ints hI⟩, rfl⟩
  refine noE (wpAny_call (OK callerA ⟨rfl, by decide, by decide⟩ _ _ [] 43 _ [] s₁ _ _ hp' _ H R ev fun v s' O' ad' H' t p r => ?_))
  cases (show v = .bool true from r)
  obtain ⟨h, tk, rfl⟩ := H'.same
  have post : PySem.Challenge.rw_no0309_01.row.claim.post [ofPy (PyData.list (List.map PyData.int ns))] (.bool true) [ofPy (PyData.list (List.map PyData.int ns))] = true := by
    first | rfl | with_unfolding_all rfl | kernel_rfl
  exact ⟨.inl ⟨_, .bool true, [], rfl, fun cls => rfl, .bool true, post, fun hu => ⟨List.Pairwise.nil, fun a m => nomatch m⟩⟩, OldK.of_keep H'.keep, rfl, fun g hg' => by
    have h : g ∈ s₁.gens := hg'
    rw [hg] at h
    simp at h⟩)
end Mine.Internal
namespace Mine.Internal.P
inductive Tr : Type 1 where
  | done (o : Out) (loc : Loc) (hp : Hp)
  | stop
  | ask {α : Type} (o : Option α) (k : α → Tr)
noncomputable def Tr.run : Tr → Option (Out × Loc × Hp)
  | .done o l h => some (o, l, h)
  | .stop => none
  | .ask o k => vS none o fun q => (k q).run
structure TV where
  E : Loc → Hp → CE → (RV → Hp → Tr) → Tr
  B : Loc → Hp → CE → (Bool → Hp → Tr) → Tr
  S : Loc → Hp → CS → (Out → Loc → Hp → Tr) → Tr
noncomputable def tR (E : Loc → Hp → CE → (RV → Hp → Tr) → Tr) (loc : Loc) : List CE → Hp → (List RV → Hp → Tr) → Tr
  | [], hp, k => k [] hp
  | e :: es, hp, k => E loc hp e fun v hp1 => tR E loc es hp1 fun vs hp2 => k (v :: vs) hp2
noncomputable def tBlk (S : Loc → Hp → CS → (Out → Loc → Hp → Tr) → Tr) : List CS → Loc → Hp → (Out → Loc → Hp → Tr) → Tr
  | [], loc, hp, k => k .next loc hp
  | c :: r, loc, hp, k => S loc hp c fun o l h => @Out.casesOn (fun _ => Tr) o (tBlk S r l h k) fun v => k (.ret v) l h
noncomputable def tIfs (B : Loc → Hp → CE → (Bool → Hp → Tr) → Tr) (loc : Loc) : List CE → Hp → (Bool → Hp → Tr) → Tr
  | [], hp, k => k true hp
  | c :: r, hp, k => B loc hp c fun x hp1 => cond x (tIfs B loc r hp1 k) (k false hp1)
noncomputable def tO (E : Loc → Hp → CE → (RV → Hp → Tr) → Tr) (loc : Loc) (hp : Hp) (o : Option CE) (k : Option Int → Hp → Tr) : Tr :=
  @Option.casesOn CE (fun _ => Tr) o (k none hp) fun e => E loc hp e fun v hp1 => vI .stop v fun i => k (some i) hp1
noncomputable def gd (p : Prop) [Decidable p] : Option Unit := if p then some () else none
theorem gd_t {p : Prop} [Decidable p] (h : p) : gd p = some () := if_pos h
noncomputable def hLk (hp : Hp) (i : Nat) (f : Option HObj → Tr) : Tr := cond (Nat.blt i 8) (f hp[i]?) (.ask (some hp[i]?) f)
noncomputable def mth (P : Prog) (c m : Nat) (fs : List (Nat × RV)) : Option Nat := vS (P.meth c m) (lookupL m fs) fun _ => none
noncomputable def dcall (C : CallT) (f : Nat) (vs : List RV) (hp : Hp) : Option (RV × Hp) := vS none (C f vs hp) fun q => some (dropTo hp.length q)
noncomputable def tE (P : Prog) (C : CallT) (r : EV) (t : TV) (loc : Loc) (hp : Hp) (e : CE) (k : RV → Hp → Tr) : Tr := match e with
  | .cnone => k (.val .none) hp
  | .cbool b => k (.val (.bool b)) hp
  | .cint i => k (.val (.int i)) hp
  | .cstr s => k (.val (.str s)) hp
  | .loc x => vS .stop (lookupL x loc) fun v => k v hp
  | .frz e => t.E loc hp e fun v hp1 => @RV.casesOn (fun _ => Tr) v (fun w => k (.val w) hp1) fun i => hLk hp1 i fun ob => hOb .stop ob (fun xs => k (.val (.lst xs)) (hp1.set i (.flst xs))) (fun xs => k (.val (.lst xs)) hp1) (fun _ _ => .stop) fun _ => .stop
  | .tup es => tR t.E loc es hp fun vs hp1 => vS .stop (valsOf vs) fun ws => k (.val (.tup ws)) hp1
  | .lst mt es => tR t.E loc es hp fun vs hp1 => vS .stop (valsOf vs) fun ws => k (mkList mt ws hp1).1 (mkList mt ws hp1).2
  | .edict => k (.ref hp.length) (hp ++ [.idict 0])
  | .bin op a b => t.E loc hp a fun x hp1 => t.E loc hp1 b fun y hp2 => vS .stop (asV hp2 x) fun u => vS .stop (asV hp2 y) fun v => .ask (binV op u v) fun z => k (.val z) hp2
  | .neg a => t.E loc hp a fun x hp1 => vI .stop x fun i => k (.val (.int (-i))) hp1
  | .not a => t.E loc hp a fun x hp1 => vB .stop x fun b => k (.val (.bool (!b))) hp1
  | .cmp op a b => t.E loc hp a fun x hp1 => t.E loc hp1 b fun y hp2 => vS .stop (asV hp2 x) fun u => vS .stop (asV hp2 y) fun v => .ask (cmpV op u v) fun z => k (.val (.bool z)) hp2
  | .boo ia a b => t.E loc hp a fun x hp1 => vB .stop x fun x => if x = ia then t.E loc hp1 b k else k (.val (.bool x)) hp1
  | .ite c a b => t.B loc hp c fun x hp1 => cond x (t.E loc hp1 a k) (t.E loc hp1 b k)
  | .call f args => tR t.E loc args hp fun vs hp1 => vS (.ask (dcall C f vs hp1) fun q => k q.1 q.2) (valsOf vs) fun _ => .ask (C f vs []) fun q => vVal .stop q.1 fun w => k (.val w) hp1
  | .blt b args => tR t.E loc args hp fun vs hp1 => vS .stop (asVs hp1 vs) fun ws => .ask (bltV b ws) fun z => k (.val z) hp1
  | .sortset e => t.E loc hp e fun x hp1 => vLst .stop x fun xs => .ask (sortsetV xs) fun z => k (.val z) hp1
  | .meth o m args => t.E loc hp o fun x hp1 => vRef .stop x fun i => hLk hp1 i fun ob => hIn .stop ob fun c fs => .ask (mth P c m fs) fun f => tR t.E loc args hp1 fun vs hp2 => .ask (dcall C f (.ref i :: vs) hp2) fun q => k q.1 q.2
  | .app o e => t.E loc hp o fun x hp1 => vRef .stop x fun i => hLk hp1 i fun ob => hML .stop ob fun _ => t.E loc hp1 e fun y hp2 => vVal .stop y fun v => hLk hp2 i fun ob => hML .stop ob fun xs => .ask (gd (xs.length < 4096)) fun _ => k (.val .none) (hp2.set i (.mlst (xs ++ [v])))
  | .ext o e => t.E loc hp o fun x hp1 => vRef .stop x fun i => hLk hp1 i fun ob => hML .stop ob fun _ => t.E loc hp1 e fun y hp2 => vLst .stop y fun vs => hLk hp2 i fun ob => hML .stop ob fun xs => .ask (gd (xs.length + vs.length ≤ 4096)) fun _ => k (.val .none) (hp2.set i (.mlst (xs ++ vs)))
  | .popl o => t.E loc hp o fun x hp1 => vRef .stop x fun i => hLk hp1 i fun ob => hML .stop ob fun xs => .ask xs.getLast? fun v => k (.val v) (hp1.set i (.mlst xs.dropLast))
  | .new c args => tR t.E loc args hp fun vs hp1 => vS .stop (P.init c) fun f => .ask (C f (.ref hp1.length :: vs) (hp1 ++ [.inst c []])) fun q => vNone .stop q.1 (k (.ref hp1.length) q.2)
  | .attr o f => t.E loc hp o fun x hp1 => vRef .stop x fun i => hLk hp1 i fun ob => hIn .stop ob fun _ fs => vS .stop (lookupL f fs) fun v => k v hp1
  | .idx o i => t.E loc hp o fun x hp1 => t.E loc hp1 i fun y hp2 => vI .stop y fun j => vS .stop (asV hp2 x) fun u => vSq .stop u fun vs => .ask (atIdx vs j) fun v => k (.val v) hp2
  | .slc o lo hi => t.E loc hp o fun x hp1 => tO t.E loc hp1 lo fun a hp2 => tO t.E loc hp2 hi fun b hp3 => vS .stop (asV hp3 x) fun v => .ask (slcV v a b) fun w => k (.val w) hp3
  | .comp mt fv elt gens => @List.casesOn (CT × CE × List CE) (fun _ => Tr) gens .stop fun g gs => t.E loc hp g.2.1 fun iv hp1 => vVal .stop iv fun iv => vS .stop (itemsOf iv) fun items => .ask (compTop r elt g.1 g.2.2 gs (loc0 fv loc) items hp1) fun q => .ask (gd (q.1.length ≤ 4096)) fun _ => k (mkList mt q.1 q.2).1 (mkList mt q.1 q.2).2
  | e => .ask (stepE P C r loc hp e) fun q => k q.1 q.2
noncomputable def tB (r : EV) (t : TV) (loc : Loc) (hp : Hp) (e : CE) (k : Bool → Hp → Tr) : Tr := match e with
  | .not a => t.B loc hp a fun b hp1 => k (!b) hp1
  | .boo ia a b => t.B loc hp a fun x hp1 => if x = ia then t.B loc hp1 b k else k x hp1
  | .ite c a b => t.B loc hp c fun x hp1 => cond x (t.B loc hp1 a k) (t.B loc hp1 b k)
  | e => t.E loc hp e fun v hp1 => vB .stop v fun b => k b hp1
noncomputable def tS (P : Prog) (C : CallT) (r : EV) (t : TV) (loc : Loc) (hp : Hp) (st : CS) (k : Out → Loc → Hp → Tr) : Tr := match st with
  | .ex e => t.E loc hp e fun v hp1 => vEx .stop v (k .next loc hp1)
  | .asg tg e => t.E loc hp e fun v hp1 => @Tgt.casesOn (fun _ => Tr) tg
    (fun x => k .next (setL x v loc) hp1)
    (fun ts => vTup .stop v fun vs => vS .stop (bindTs ts vs loc) fun l => k .next l hp1)
    (fun o f => t.E loc hp1 o fun x hp2 => vRef .stop x fun i => hLk hp2 i fun ob => hIn .stop ob fun c fs => .ask (gd (fs.length < 50)) fun _ => k .next loc (hp2.set i (.inst c (setL f v fs))))
    (fun o i => vVal .stop v fun w => t.E loc hp1 o fun x hp2 => vRef .stop x fun q => t.E loc hp2 i fun y hp3 => vI .stop y fun j => hLk hp3 q fun ob => hOb .stop ob (fun xs => .ask (posIdx xs.length j) fun p => k .next loc (hp3.set q (.mlst (xs.set p w)))) (fun _ => .stop) (fun _ _ => .stop) fun n => .ask (gd (n < 64)) fun _ => k .next loc (hp3.set q (.idict (n + 1))))
  | .asgT xs es => tR t.E loc es hp fun vs hp1 => if vs.length = xs.length then k .next ((xs.zip vs).foldl (fun l p => setL p.1 p.2 l) loc) hp1 else .stop
  | .iff c a b => t.B loc hp c fun x hp1 => cond x (tBlk t.S a loc hp1 k) (tBlk t.S b loc hp1 k)
  | .for_ ct e body => t.E loc hp e fun v hp1 => vVal .stop v fun v => vS .stop (itemsOf v) fun items => .ask (forGo (forB r ct body) items loc hp1) fun q => k q.1 q.2.1 q.2.2
  | .forEnum ct e body => t.E loc hp e fun v hp1 => vTup .stop v fun vs => .ask (forGo (forB r ct body) (enumFrom 0 vs) loc hp1) fun q => k q.1 q.2.1 q.2.2
  | .ret o => @Option.casesOn CE (fun _ => Tr) o (k (.ret (.val .none)) loc hp) fun e => t.E loc hp e fun v hp1 => k (.ret v) loc hp1
  | .whil c b => .ask (whileGo (fun l h => r.B l h c) (fun l h => block r.S b l h) whileFuel loc hp) fun q => k q.1 q.2.1 q.2.2
noncomputable def tD (P : Prog) (C : CallT) : Nat → TV
  | 0 => ⟨fun _ _ _ _ => .stop, fun _ _ _ _ => .stop, fun _ _ _ _ => .stop⟩
  | d + 1 => ⟨tE P C (evD P C d) (tD P C d), tB (evD P C d) (tD P C d), tS P C (evD P C d) (tD P C d)⟩
noncomputable def SE (E : Loc → Hp → CE → Option (RV × Hp)) (T : Loc → Hp → CE → (RV → Hp → Tr) → Tr) : Prop := ∀ loc hp e k, (T loc hp e k).run = vS none (E loc hp e) fun q => (k q.1 q.2).run
noncomputable def SB (E : Loc → Hp → CE → Option (Bool × Hp)) (T : Loc → Hp → CE → (Bool → Hp → Tr) → Tr) : Prop := ∀ loc hp e k, (T loc hp e k).run = vS none (E loc hp e) fun q => (k q.1 q.2).run
noncomputable def SS (E : Loc → Hp → CS → Option (Out × Loc × Hp)) (T : Loc → Hp → CS → (Out → Loc → Hp → Tr) → Tr) : Prop := ∀ loc hp e k, (T loc hp e k).run = vS none (E loc hp e) fun q => (k q.1 q.2.1 q.2.2).run
section
variable {α β : Type} {ρ δ : Type} {K : ρ → Option (Out × Loc × Hp)}
theorem c1 {o : Option (α × β)} {f : α → β → Option ρ} {g : α × β → Option (Out × Loc × Hp)} (h : ∀ a b, g (a, b) = vS none (f a b) K) : vS none o g = vS none (obn o f) K := by
  rw [obn_eq]
  exact match o with
  | some q => h q.1 q.2
  | none => rfl
theorem r_S {o : Option α} {f : α → Tr} {g : α → Option ρ} (h : ∀ a, (f a).run = vS none (g a) K) : (vS .stop o f).run = vS none (vS none o g) K := match o with
  | some a => h a
  | none => rfl
theorem r_Sz {o : Option α} {z : Tr} {zo : Option ρ} {f : α → Tr} {g : α → Option ρ} (hz : z.run = vS none zo K) (h : ∀ a, (f a).run = vS none (g a) K) : (vS z o f).run = vS none (vS zo o g) K := match o with
  | some a => h a
  | none => hz
theorem r_q {o : Option α} {f : α → Tr} {g : α → Option ρ} (h : ∀ a, (f a).run = vS none (g a) K) : (Tr.ask o f).run = vS none (vS none o g) K := match o with
  | some a => h a
  | none => rfl
theorem r_ob {o : Option (α × β)} {f : α × β → Tr} {g : α → β → Option ρ} (h : ∀ a b, (f (a, b)).run = vS none (g a b) K) : (Tr.ask o f).run = vS none (obn o g) K := c1 h
theorem r_all {o : Option ρ} {f : ρ → Tr} (h : ∀ a, (f a).run = K a) : (Tr.ask o f).run = vS none o K := match o with
  | some a => h a
  | none => rfl
theorem r_gd {p : Prop} [Decidable p] {f : Unit → Tr} {g : Option ρ} (h : (f ()).run = vS none g K) : (Tr.ask (gd p) f).run = vS none (if p then g else none) K := by
  show vS none (if p then some () else none) _ = _
  by_cases q : p
  · rw [if_pos q, if_pos q]; exact h
  · rw [if_neg q, if_neg q]; rfl
theorem r_if {p : Prop} [Decidable p] {f f' : Tr} {g g' : Option ρ} (h : f.run = vS none g K) (h' : f'.run = vS none g' K) : (if p then f else f').run = vS none (if p then g else g') K := by
  by_cases q : p
  · rw [if_pos q, if_pos q]; exact h
  · rw [if_neg q, if_neg q]; exact h'
theorem r_cd {x : Bool} {f f' : Tr} {g g' : Option ρ} (h : f.run = vS none g K) (h' : f'.run = vS none g' K) : (cond x f f').run = vS none (cond x g g') K := match x with
  | true => h
  | false => h'
theorem r_val {v : RV} {f : V → Tr} {g : V → Option ρ} (h : ∀ a, (f a).run = vS none (g a) K) : (vVal .stop v f).run = vS none (vVal none v g) K := match v with
  | .val a => h a
  | .ref _ => rfl
theorem r_ref {v : RV} {f : Nat → Tr} {g : Nat → Option ρ} (h : ∀ a, (f a).run = vS none (g a) K) : (vRef .stop v f).run = vS none (vRef none v g) K := match v with
  | .ref a => h a
  | .val _ => rfl
theorem r_V {x : V} {a : Tr} {a' : Option ρ} {b : Bool → Tr} {b' : Bool → Option ρ} {i : Int → Tr} {i' : Int → Option ρ} {t l : List V → Tr} {t' l' : List V → Option ρ} (ha : a.run = vS none a' K) (hb : ∀ x, (b x).run = vS none (b' x) K) (hi : ∀ x, (i x).run = vS none (i' x) K) (ht : ∀ x, (t x).run = vS none (t' x) K) (hl : ∀ x, (l x).run = vS none (l' x) K) :
    (@V.casesOn (fun _ => Tr) x a b i (fun _ => .stop) t l fun _ _ _ => .stop).run = vS none (@V.casesOn (fun _ => Option ρ) x a' b' i' (fun _ => none) t' l' fun _ _ _ => none) K := match x with
  | .none => ha
  | .bool x => hb x
  | .int x => hi x
  | .str _ => rfl
  | .tup x => ht x
  | .lst x => hl x
  | .rng _ _ _ => rfl
theorem r_I {v : RV} {f : Int → Tr} {g : Int → Option ρ} (h : ∀ a, (f a).run = vS none (g a) K) : (vI .stop v f).run = vS none (vI none v g) K := r_val fun x => r_V rfl (fun _ => rfl) h (fun _ => rfl) fun _ => rfl
theorem r_B {v : RV} {f : Bool → Tr} {g : Bool → Option ρ} (h : ∀ a, (f a).run = vS none (g a) K) : (vB .stop v f).run = vS none (vB none v g) K := r_val fun x => r_V rfl h (fun _ => rfl) (fun _ => rfl) fun _ => rfl
theorem r_Tup {v : RV} {f : List V → Tr} {g : List V → Option ρ} (h : ∀ a, (f a).run = vS none (g a) K) : (vTup .stop v f).run = vS none (vTup none v g) K := r_val fun x => r_V rfl (fun _ => rfl) (fun _ => rfl) h fun _ => rfl
theorem r_Lst {v : RV} {f : List V → Tr} {g : List V → Option ρ} (h : ∀ a, (f a).run = vS none (g a) K) : (vLst .stop v f).run = vS none (vLst none v g) K := r_val fun x => r_V rfl (fun _ => rfl) (fun _ => rfl) (fun _ => rfl) h
theorem r_Sq {v : V} {f : List V → Tr} {g : List V → Option ρ} (h : ∀ a, (f a).run = vS none (g a) K) : (vSq .stop v f).run = vS none (vSq none v g) K := r_V rfl (fun _ => rfl) (fun _ => rfl) h h
theorem r_None {v : RV} {f : Tr} {g : Option ρ} (h : f.run = vS none g K) : (vNone .stop v f).run = vS none (vNone none v g) K := r_val fun x => r_V h (fun _ => rfl) (fun _ => rfl) (fun _ => rfl) fun _ => rfl
theorem r_Ex {v : RV} {f : Tr} {g : Option ρ} (h : f.run = vS none g K) : (vEx .stop v f).run = vS none (vEx none v g) K := r_val fun x => r_V h (fun _ => h) (fun _ => h) (fun _ => rfl) fun _ => rfl
theorem r_lk {hp : Hp} {i : Nat} {f : Option HObj → Tr} {g : Option ρ} (h : (f hp[i]?).run = vS none g K) : (hLk hp i f).run = vS none g K := by
  unfold hLk
  cases Nat.blt i 8 <;> exact h
theorem r_Ob {o : Option HObj} {m l : List V → Tr} {m' l' : List V → Option ρ} {n : Nat → List (Nat × RV) → Tr} {n' : Nat → List (Nat × RV) → Option ρ} {d : Nat → Tr} {d' : Nat → Option ρ} (hm : ∀ a, (m a).run = vS none (m' a) K) (hl : ∀ a, (l a).run = vS none (l' a) K) (hn : ∀ a b, (n a b).run = vS none (n' a b) K) (hd : ∀ a, (d a).run = vS none (d' a) K) :
    (hOb .stop o m l n d).run = vS none (hOb none o m' l' n' d') K := match o with
  | none => rfl
  | some (.mlst x) => hm x
  | some (.flst x) => hl x
  | some (.inst a b) => hn a b
  | some (.idict x) => hd x
theorem r_ML {o : Option HObj} {m : List V → Tr} {m' : List V → Option ρ} (h : ∀ a, (m a).run = vS none (m' a) K) : (hML .stop o m).run = vS none (hML none o m') K := r_Ob h (fun _ => rfl) (fun _ _ => rfl) fun _ => rfl
theorem r_In {o : Option HObj} {m : Nat → List (Nat × RV) → Tr} {m' : Nat → List (Nat × RV) → Option ρ} (h : ∀ a b, (m a b).run = vS none (m' a b) K) : (hIn .stop o m).run = vS none (hIn none o m') K := r_Ob (fun _ => rfl) (fun _ => rfl) h fun _ => rfl
end
section
variable {P : Prog} {C : CallT} {r : EV} {t : TV}
theorem tR_ok {E T} (h : SE E T) {loc : Loc} : ∀ (es : List CE) (hp : Hp) (k : List RV → Hp → Tr), (tR T loc es hp k).run = vS none (evR E loc es hp) fun q => (k q.1 q.2).run
  | [], hp, k => rfl
  | e :: es, hp, k => (h _ _ _ _).trans (c1 fun v h1 => (tR_ok h es h1 _).trans (c1 fun vs h2 => rfl))
theorem tBlk_ok {E T} (h : SS E T) : ∀ (cs : List CS) (loc : Loc) (hp : Hp) (k : Out → Loc → Hp → Tr), (tBlk T cs loc hp k).run = vS none (block E cs loc hp) fun q => (k q.1 q.2.1 q.2.2).run
  | [], loc, hp, k => rfl
  | c :: cs, loc, hp, k => by
    refine (h _ _ _ _).trans ?_
    show _ = vS none (obs (E loc hp c) (block E cs)) _
    rw [obs_eq]
    exact match E loc hp c with
    | none => rfl
    | some (.next, l, h1) => tBlk_ok h cs l h1 k
    | some (.ret v, l, h1) => rfl
theorem tIfs_ok {E T} (h : SB E T) {loc : Loc} : ∀ (es : List CE) (hp : Hp) (k : Bool → Hp → Tr), (tIfs T loc es hp k).run = vS none (ifsB E loc es hp) fun q => (k q.1 q.2).run
  | [], hp, k => rfl
  | e :: es, hp, k => (h _ _ _ _).trans (c1 fun v h1 => r_cd (tIfs_ok h es h1 k) rfl)
theorem tO_ok {E T} (h : SE E T) {loc : Loc} {hp : Hp} {o : Option CE} {k : Option Int → Hp → Tr} : (tO T loc hp o k).run = vS none (optE E loc hp o) fun q => (k q.1 q.2).run := match o with
  | none => rfl
  | some e => (h _ _ _ _).trans (c1 fun v h1 => r_I fun i => rfl)
theorem r_mth {c m : Nat} {fs : List (Nat × RV)} {ρ : Type} {K : ρ → Option (Out × Loc × Hp)} {f : Nat → Tr} {g : Nat → Option ρ} (h : ∀ a, (f a).run = vS none (g a) K) : (Tr.ask (mth P c m fs) f).run = vS none (vS (vS none (P.meth c m) g) (lookupL m fs) fun _ => none) K := by
  unfold mth
  exact match lookupL m fs with
  | some _ => rfl
  | none => r_q h
theorem r_dc {f : Nat} {vs : List RV} {hp : Hp} {k : RV → Hp → Tr} : (Tr.ask (dcall C f vs hp) fun q => k q.1 q.2).run = vS none (vS none (C f vs hp) fun q => some (dropTo hp.length q)) fun q => (k q.1 q.2).run := rfl
theorem tE_ok (hE : SE r.E t.E) (hB : SB r.B t.B) : SE (stepE P C r) (tE P C r t) := fun loc hp e k => match e with
  | .cnone => rfl
  | .cbool b => rfl
  | .cint i => rfl
  | .cstr s => rfl
  | .loc x => r_S fun v => rfl
  | .frz e => (hE _ _ _ _).trans (c1 fun v h => match v with
    | .val _ => rfl
    | .ref i => r_lk (r_Ob (fun _ => rfl) (fun _ => rfl) (fun _ _ => rfl) fun _ => rfl))
  | .tup es => (tR_ok hE _ _ _).trans (c1 fun vs h => r_S fun ws => rfl)
  | .lst mt es => (tR_ok hE _ _ _).trans (c1 fun vs h => r_S fun ws => rfl)
  | .edict => rfl
  | .bin op a b => (hE _ _ _ _).trans (c1 fun x h => (hE _ _ _ _).trans (c1 fun y h2 => r_S fun u => r_S fun v => r_q fun z => rfl))
  | .neg a => (hE _ _ _ _).trans (c1 fun x h => r_I fun i => rfl)
  | .not a => (hE _ _ _ _).trans (c1 fun x h => r_B fun i => rfl)
  | .cmp op a b => (hE _ _ _ _).trans (c1 fun x h => (hE _ _ _ _).trans (c1 fun y h2 => r_S fun u => r_S fun v => r_q fun z => rfl))
  | .boo ia a b => (hE _ _ _ _).trans (c1 fun x h => r_B fun x => r_if (hE _ _ _ _) rfl)
  | .ite c a b => (hB _ _ _ _).trans (c1 fun x h => r_cd (hE _ _ _ _) (hE _ _ _ _))
  | .call f args => (tR_ok hE _ _ _).trans (c1 fun vs h => r_Sz r_dc fun _ => r_ob fun v _ => r_val fun w => rfl)
  | .blt b args => (tR_ok hE _ _ _).trans (c1 fun vs h => r_S fun ws => r_q fun z => rfl)
  | .tupzip a b => r_all fun _ => rfl
  | .sortset e => (hE _ _ _ _).trans (c1 fun x h => r_Lst fun xs => r_q fun z => rfl)
  | .meth o m args => (hE _ _ _ _).trans (c1 fun x h => r_ref fun i => r_lk (r_In fun c fs => r_mth fun f => (tR_ok hE _ _ _).trans (c1 fun vs h2 => r_dc)))
  | .app o e => (hE _ _ _ _).trans (c1 fun x h => r_ref fun i => r_lk (r_ML fun _ => (hE _ _ _ _).trans (c1 fun y h2 => r_val fun v => r_lk (r_ML fun xs => r_gd rfl))))
  | .ext o e => (hE _ _ _ _).trans (c1 fun x h => r_ref fun i => r_lk (r_ML fun _ => (hE _ _ _ _).trans (c1 fun y h2 => r_Lst fun v => r_lk (r_ML fun xs => r_gd rfl))))
  | .popl o => (hE _ _ _ _).trans (c1 fun x h => r_ref fun i => r_lk (r_ML fun xs => r_q fun v => rfl))
  | .new c args => (tR_ok hE _ _ _).trans (c1 fun vs h => r_S fun f => r_ob fun v h2 => r_None rfl)
  | .attr o f => (hE _ _ _ _).trans (c1 fun x h => r_ref fun i => r_lk (r_In fun _ fs => r_S fun v => rfl))
  | .idx o i => (hE _ _ _ _).trans (c1 fun x h => (hE _ _ _ _).trans (c1 fun y h2 => r_I fun j => r_S fun u => r_Sq fun vs => r_q fun v => rfl))
  | .slc o lo hi => (hE _ _ _ _).trans (c1 fun x h => (tO_ok hE).trans (c1 fun a h2 => (tO_ok hE).trans (c1 fun b h3 => r_S fun v => r_q fun w => rfl)))
  | .comp mt fv elt gens => match gens with
    | [] => rfl
    | g :: gs => (hE _ _ _ _).trans (c1 fun iv h => r_val fun iv => r_S fun items => r_ob fun vs h2 => r_gd rfl)
theorem tB_ok (hE : SE r.E t.E) (hB : SB r.B t.B) : SB (stepB r) (tB r t) := fun loc hp e k => by
  have PL : ∀ e, ((t.E loc hp e fun v hp1 => vB .stop v fun b => k b hp1).run) = vS none (obn (r.E loc hp e) fun v hp1 => vB none v fun b => some (b, hp1)) fun q => (k q.1 q.2).run := fun e => (hE _ _ _ _).trans (c1 fun v h => r_B fun b => rfl)
  cases e with
  | not a => exact (hB _ _ _ _).trans (c1 fun x h => rfl)
  | boo ia a b => exact (hB _ _ _ _).trans (c1 fun x h => r_if (hB _ _ _ _) rfl)
  | ite c a b => exact (hB _ _ _ _).trans (c1 fun x h => r_cd (hB _ _ _ _) (hB _ _ _ _))
  | _ => exact PL _
theorem tS_ok (hE : SE r.E t.E) (hB : SB r.B t.B) (hS : SS r.S t.S) : SS (stepS P C r) (tS P C r t) := fun loc hp e k => match e with
  | .ex e => (hE _ _ _ _).trans (c1 fun v h => r_Ex rfl)
  | .asg tg e => (hE _ _ _ _).trans (c1 fun v h => match tg with
    | .name x => rfl
    | .tup ts => r_Tup fun vs => r_S fun l => rfl
    | .attr o f => (hE _ _ _ _).trans (c1 fun x h2 => r_ref fun i => r_lk (r_In fun c fs => r_gd rfl))
    | .idx o i => r_val fun w => (hE _ _ _ _).trans (c1 fun x h2 => r_ref fun q => (hE _ _ _ _).trans (c1 fun y h3 => r_I fun j => r_lk (r_Ob (fun xs => r_q fun p => rfl) (fun _ => rfl) (fun _ _ => rfl) fun n => r_gd rfl))))
  | .asgT xs es => (tR_ok hE _ _ _).trans (c1 fun vs h => r_if rfl rfl)
  | .iff c a b => (hB _ _ _ _).trans (c1 fun x h => r_cd (tBlk_ok hS _ _ _ _) (tBlk_ok hS _ _ _ _))
  | .whil c b => r_all fun _ => rfl
  | .for_ ct e body => (hE _ _ _ _).trans (c1 fun v h => r_val fun v => r_S fun items => r_all fun _ => rfl)
  | .forEnum ct e body => (hE _ _ _ _).trans (c1 fun v h => r_Tup fun vs => r_all fun _ => rfl)
  | .ret o => match o with
    | none => rfl
    | some e => (hE _ _ _ _).trans (c1 fun v h => rfl)
theorem tD_ok : ∀ d, SE (evD P C d).E (tD P C d).E ∧ SB (evD P C d).B (tD P C d).B ∧ SS (evD P C d).S (tD P C d).S
  | 0 => ⟨fun _ _ _ _ => rfl, fun _ _ _ _ => rfl, fun _ _ _ _ => rfl⟩
  | d + 1 => have ⟨a, b, c⟩ := tD_ok d; ⟨tE_ok a b, tB_ok a b, tS_ok (P := P) (C := C) a b c⟩
end
noncomputable def ty (t : Tr) : Type := @Tr.casesOn (fun _ => Type) t (fun _ _ _ => Empty) Empty fun {α} _ _ => α
noncomputable def hd (t : Tr) : Option (ty t) := @Tr.casesOn (fun t => Option (ty t)) t (fun _ _ _ => none) none fun o _ => o
noncomputable def nx (t : Tr) : ty t → Tr := @Tr.casesOn (fun t => ty t → Tr) t (fun _ _ _ _ => .stop) (fun _ => .stop) fun _ k => k
theorem run_K {t : Tr} {q : ty t} {X} (h : hd t = some q) (r : (nx t q).run = some X) : t.run = some X := match t, q, h, r with
  | .ask o k, q, h, r => by
    show vS none o _ = _
    rw [show o = some q from h]
    exact r
  | .done _ _ _, q, h, r => nS h
  | .stop, q, h, r => nS h
noncomputable def Tr.runV (t : Tr) : Option (RV × Hp) := vS none t.run fun q => some (outRV q)
noncomputable def outD (t : Tr) : Option (RV × Hp) := @Tr.casesOn (fun _ => Option (RV × Hp)) t (fun o l h => some (outRV (o, l, h))) none fun _ _ => none
theorem run_V {t : Tr} {q : ty t} {Y} (h : hd t = some q) (r : (nx t q).runV = some Y) : t.runV = some Y := vS_e r fun X e f => by
  unfold Tr.runV
  rw [run_K h e]
  exact f
theorem run_d {t : Tr} {Y} (h : outD t = some Y) : t.runV = some Y := match t, h with
  | .done _ _ _, h => h
  | .stop, h => nS h
  | .ask _ _, h => nS h
theorem run_done {t : Tr} {o : Out} {l : Loc} {h : Hp} (e : t = .done o l h) : t.run = some (o, l, h) := e ▸ rfl
theorem run_blk {P : Prog} {C : CallT} {d : Nat} {body : List CS} {loc : Loc} {hp : Hp} {X} (h : (tBlk (tD P C d).S body loc hp .done).run = some X) : block (evD P C d).S body loc hp = some X := by
  rw [tBlk_ok (tD_ok d).2.2] at h
  exact vS_e h fun q e h => e.trans h
theorem run_S {P : Prog} {C : CallT} {d : Nat} {st : CS} {loc : Loc} {hp : Hp} {X} (h : ((tD P C d).S loc hp st .done).run = some X) : (evD P C d).S loc hp st = some X := by
  rw [(tD_ok d).2.2] at h
  exact vS_e h fun q e h => e.trans h
theorem run_forB {P : Prog} {C : CallT} {d : Nat} {t : CT} {body : List CS} {x : V} {loc l : Loc} {hp : Hp} {X} (b : bindT t x loc = some l) (h : (tBlk (tD P C d).S body l hp .done).run = some X) : forB (evD P C d) t body x loc hp = some X := by
  show vS none (bindT t x loc) _ = _
  rw [b]
  exact run_blk h
theorem run_B {P : Prog} {C : CallT} {d : Nat} {e : CE} {loc : Loc} {hp : Hp} {b : Bool} {h' : Hp} (h : ((tD P C d).B loc hp e fun b h => .done (.ret (.val (.bool b))) [] h).run = some (.ret (.val (.bool b)), [], h')) : (evD P C d).B loc hp e = some (b, h') := by
  rw [(tD_ok d).2.1] at h
  exact vS_e h fun q e h => by rcases h with ⟨⟩; exact e
theorem run_E {P : Prog} {C : CallT} {d : Nat} {e : CE} {loc : Loc} {hp : Hp} {v : RV} {h' : Hp} (h : ((tD P C d).E loc hp e fun v h => .done (.ret v) [] h).run = some (.ret v, [], h')) : (evD P C d).E loc hp e = some (v, h') := by
  rw [(tD_ok d).1] at h
  exact vS_e h fun q e h => by rcases h with ⟨⟩; exact e
theorem run_fnT {c f : Nat} {fd : FnC} {args : List RV} {hp : Hp} {Y : RV × Hp} (hf : prog.fn[f]? = some fd) (hs : fd.sup = none) (hl : fd.params.length = args.length)
    (h : (tBlk (tD prog (callN prog c) 24).S fd.body (fd.params.zip args) hp .done).runV = some Y) : callN prog (c + 1) f args hp = some Y := by
  refine vS_e h fun X e h => ?_
  show vS none prog.fn[f]? _ = _
  rw [hf]
  show vS none (zipL _ _) _ = _
  unfold zipL
  rw [if_pos hl]
  show bodyGo _ _ _ _ _ _ = _
  unfold bodyGo
  rw [hs]
  show vS none (block (evD prog (callN prog c) 24).S _ _ _) _ = _
  rw [run_blk e]
  exact h
theorem am {C : CallT} {f : Nat} {vs : List RV} {hp : Hp} {q q' : RV × Hp} (h : C f vs hp = some q) (d : dropTo hp.length q = q') : dcall C f vs hp = some q' := by
  unfold dcall
  rw [h]
  exact congrArg some d
noncomputable def tTurn (t : TV) (elt : CE) (ifs : List CE) (loc : Loc) (hp : Hp) : Tr := tIfs t.B loc ifs hp fun ok h => cond ok (t.E loc h elt fun v h1 => vVal .stop v fun v => .done (.ret (.val (.lst [v]))) [] h1) (.done (.ret (.val (.lst []))) [] h)
noncomputable def lstO (q : List V × Hp) : Option (Out × Loc × Hp) := some (.ret (.val (.lst q.1)), [], q.2)
theorem turn_of {P : Prog} {C : CallT} {d : Nat} {elt : CE} {t : CT} {ifs : List CE} {l0 loc : Loc} {x : V} {hp h' : Hp} {vs : List V} (b : bindT t x l0 = some loc) (h : (tTurn (tD P C d) elt ifs loc hp).run = some (.ret (.val (.lst vs)), [], h')) :
    (vS none (bindT t x l0) fun loc' => obn (ifsB (evD P C d).B loc' ifs hp) fun ok hp1 => cond ok (compGo (evD P C d) elt [] loc' hp1) (some ([], hp1))) = some (vs, h') := by
  rw [b]
  have e : (tTurn (tD P C d) elt ifs loc hp).run = vS none (obn (ifsB (evD P C d).B loc ifs hp) fun ok hp1 => cond ok (compGo (evD P C d) elt [] loc hp1) (some ([], hp1))) lstO :=
    (tIfs_ok (tD_ok d).2.1 _ _ _).trans (c1 fun ok h1 => r_cd (((tD_ok d).1 _ _ _ _).trans (c1 fun v h2 => r_val fun v => rfl)) rfl)
  rw [e] at h
  exact vS_e h fun q e h => by rcases h with ⟨⟩; exact e
end Mine.Internal.P
namespace Mine.Internal.P
noncomputable def valsM (m : Nat) : List Nat := (List.range 4).filter fun v => m.testBit v
noncomputable def rngs : List Nat → List (Nat × Nat)
  | [] => []
  | v :: r => match rngs r with
    | (a, b) :: t => if a = v + 1 then (v, b) :: t else (v, v) :: (a, b) :: t
    | [] => [(v, v)]
noncomputable def ivs (m : Nat) : List (Nat × Nat) := rngs (valsM m)
noncomputable def nV (n : Nat) : V := .int (n : Int)
noncomputable def domV (m : Nat) : V := .tup ((ivs m).map fun p => .tup [nV p.1, nV p.2])
noncomputable def lotV (m : Nat) : V := .lst ((valsM m).map nV)
noncomputable def saysI (sg : Nat) (k v : Int) : Bool := match sg with
  | 0 => decide (v ≤ k)
  | 1 => decide (v ≥ k)
  | 2 => decide (v = k)
  | _ => decide (v ≠ k)
noncomputable def maskOf (f : Nat → Bool) : Nat := (if f 0 then 1 else 0) + (if f 1 then 2 else 0) + (if f 2 then 4 else 0) + (if f 3 then 8 else 0)
noncomputable def strikeM (m sg : Nat) (k : Int) : Nat := maskOf fun v => m.testBit v && saysI sg k (v : Int)
mutual
noncomputable def beqV : V → V → Bool
  | .none, .none => true
  | .bool a, .bool b => a == b
  | .int a, .int b => decide (a = b)
  | .str a, .str b => decide (a = b)
  | .tup a, .tup b => beqL a b
  | .lst a, .lst b => beqL a b
  | .rng a b c, .rng d e f => decide (a = d) && (decide (b = e) && decide (c = f))
  | _, _ => false
noncomputable def beqL : List V → List V → Bool
  | [], [] => true
  | a :: as, b :: bs => beqV a b && beqL as bs
  | _, _ => false
end
theorem b_and {a b : Bool} {M : Prop} (h : (a && b) = true) (k : a = true → b = true → M) : M := match a, b, h with
  | true, true, _ => k rfl rfl
theorem b_ff {α : Prop} (h : false = true) : α := nB h
mutual
theorem beqV_eq : ∀ {a b : V}, beqV a b = true → a = b
  | .none, b => @fun h => by revert h; rcases b with _ | _ <;> first | exact fun (h : false = true) => b_ff h | exact fun _ => rfl
  | .bool a, b => @fun h => by revert h; rcases b with _ | _ <;> first | exact fun (h : false = true) => b_ff h | exact fun h => congrArg V.bool (beq_iff_eq.mp h)
  | .int a, b => @fun h => by revert h; rcases b with _ | _ <;> first | exact fun (h : false = true) => b_ff h | exact fun h => congrArg V.int (of_decide_eq_true h)
  | .str a, b => @fun h => by revert h; rcases b with _ | _ <;> first | exact fun (h : false = true) => b_ff h | exact fun h => congrArg V.str (of_decide_eq_true h)
  | .tup a, b => @fun h => by revert h; rcases b with _ | _ <;> first | exact fun (h : false = true) => b_ff h | exact fun h => congrArg V.tup (beqL_eq h)
  | .lst a, b => @fun h => by revert h; rcases b with _ | _ <;> first | exact fun (h : false = true) => b_ff h | exact fun h => congrArg V.lst (beqL_eq h)
  | .rng a c d, b => @fun h => by
    revert h
    rcases b with _ | _ <;> first | exact fun (h : false = true) => b_ff h | exact fun h => b_and h fun h1 h => b_and h fun h2 h3 => by rw [of_decide_eq_true h1, of_decide_eq_true h2, of_decide_eq_true h3]
theorem beqL_eq : ∀ {a b : List V}, beqL a b = true → a = b
  | [], [] => @fun _ => rfl
  | [], _ :: _ => @fun h => b_ff h
  | _ :: _, [] => @fun h => b_ff h
  | a :: as, b :: bs => @fun h => b_and h fun h1 h2 => by rw [beqV_eq h1, beqL_eq h2]
end
noncomputable def isVal (r : Option (RV × Hp)) (v : V) : Bool := match r with
  | some (.val u, []) => beqV u v
  | _ => false
theorem isVal_eq {r : Option (RV × Hp)} {v : V} (h : isVal r v = true) : r = some (.val v, []) := by
  rcases r with _ | ⟨u | _, _ | _⟩ <;> first | exact b_ff h | rw [beqV_eq (show beqV u v = true from h)]
noncomputable def isValH (r : Option (RV × Hp)) (v : V) : Bool := match r with
  | some (.val u, _) => beqV u v
  | _ => false
theorem isValH_eq {r : Option (RV × Hp)} {v : V} (h : isValH r v = true) : ∃ h, r = some (.val v, h) := by
  rcases r with _ | ⟨u | _, _⟩ <;> first | exact b_ff h | exact ⟨_, by rw [beqV_eq (show beqV u v = true from h)]⟩
noncomputable def kOf (j : Nat) : Int := (j : Int) - 3
theorem kOf_of {k : Int} (h : -3 ≤ k ∧ k ≤ 6) : ∃ j, j < 10 ∧ kOf j = k := ⟨(k + 3).toNat, by lia, by unfold kOf; lia⟩
noncomputable def struckChk (c : Nat) (X : V) (sg : Nat) : Bool := (List.range 16).all fun m => (List.range 10).all fun j =>
  isVal (callN prog (c + 3) 7 [.val (.tup [X, .str sg, .int (kOf j)]), .val (domV m)] []) (domV (strikeM m sg (kOf j)))
theorem struck0 (c : Nat) (X : V) : struckChk c X 0 = true := by kernel_rfl
theorem struck1 (c : Nat) (X : V) : struckChk c X 1 = true := by kernel_rfl
theorem struck2 (c : Nat) (X : V) : struckChk c X 2 = true := by kernel_rfl
theorem struck3 (c : Nat) (X : V) : struckChk c X 3 = true := by kernel_rfl
theorem strikeM_lt {m sg : Nat} {k : Int} : strikeM m sg k < 16 := by
  unfold strikeM maskOf
  split <;> split <;> split <;> split <;> decide
theorem struck_sp (c : Nat) {X : V} {m sg : Nat} {k : Int} (hm : m < 16) (hs : sg < 4) (hk : -3 ≤ k ∧ k ≤ 6) :
    callN prog (c + 3) 7 [.val (.tup [X, .str sg, .int k]), .val (domV m)] [] = some (.val (domV (strikeM m sg k)), []) := by
  obtain ⟨j, hj, rfl⟩ := kOf_of hk
  have h : struckChk c X sg = true := by
    match sg, hs with
    | 0, _ => exact struck0 c X
    | 1, _ => exact struck1 c X
    | 2, _ => exact struck2 c X
    | 3, _ => exact struck3 c X
    | n + 4, h => exact absurd h (by lia)
  unfold struckChk at h
  exact isVal_eq (List.all_eq_true.mp (List.all_eq_true.mp h m (List.mem_range.mpr hm)) j (List.mem_range.mpr hj))
noncomputable def loM (m : Nat) : Int := ((valsM m).headD 0 : Nat)
noncomputable def hiM (m : Nat) : Int := ((valsM m).getLastD 0 : Nat)
noncomputable def ends_chk (c : Nat) : Bool := (List.range 16).all fun m => (m == 0) || (isVal (callN prog (c + 1) 0 [.val (domV m)] []) (.int (loM m)) && isVal (callN prog (c + 1) 1 [.val (domV m)] []) (.int (hiM m)))
theorem ends_ok (c : Nat) : ends_chk c = true := by kernel_rfl
theorem least_sp (c : Nat) {m : Nat} (hm : m < 16) (h0 : m ≠ 0) : callN prog (c + 1) 0 [.val (domV m)] [] = some (.val (.int (loM m)), []) := by
  have h := List.all_eq_true.mp (ends_ok c) m (List.mem_range.mpr hm)
  simp only [Bool.or_eq_true, beq_iff_eq, Bool.and_eq_true] at h
  exact isVal_eq (h.resolve_left h0).1
theorem greatest_sp (c : Nat) {m : Nat} (hm : m < 16) (h0 : m ≠ 0) : callN prog (c + 1) 1 [.val (domV m)] [] = some (.val (.int (hiM m)), []) := by
  have h := List.all_eq_true.mp (ends_ok c) m (List.mem_range.mpr hm)
  simp only [Bool.or_eq_true, beq_iff_eq, Bool.and_eq_true] at h
  exact isVal_eq (h.resolve_left h0).2
noncomputable def vals_chk (c : Nat) : Bool := (List.range 16).all fun m => isVal (callN prog (c + 1) 37 [.val (domV m)] []) (lotV m) && isValH (callN prog (c + 1) 38 [.val (lotV m)] []) (domV m)
theorem vals_ok (c : Nat) : vals_chk c = true := by kernel_rfl
theorem values_sp (c : Nat) {m : Nat} (hm : m < 16) : callN prog (c + 1) 37 [.val (domV m)] [] = some (.val (lotV m), []) := by
  have h := List.all_eq_true.mp (vals_ok c) m (List.mem_range.mpr hm)
  simp only [Bool.and_eq_true] at h
  exact isVal_eq h.1
theorem domain_sp (c : Nat) {m : Nat} (hm : m < 16) : ∃ h, callN prog (c + 1) 38 [.val (lotV m)] [] = some (.val (domV m), h) := by
  have h := List.all_eq_true.mp (vals_ok c) m (List.mem_range.mpr hm)
  simp only [Bool.and_eq_true] at h
  exact isValH_eq h.2
noncomputable def eq_chk : Bool := (List.range 16).all fun m => (List.range 16).all fun n => (eqV (domV m) (domV n) == decide (m = n)) && (eqV (lotV m) (lotV n) == decide (m = n)) && decide (depV (domV m) ≤ 2) && decide (depV (lotV m) ≤ 1)
theorem eq_ok : eq_chk = true := by kernel_rfl
theorem eq_at {m n : Nat} (hm : m < 16) (hn : n < 16) : eqV (domV m) (domV n) = decide (m = n) ∧ eqV (lotV m) (lotV n) = decide (m = n) ∧ depV (domV m) ≤ 2 ∧ depV (lotV m) ≤ 1 := by
  have h := List.all_eq_true.mp (List.all_eq_true.mp eq_ok m (List.mem_range.mpr hm)) n (List.mem_range.mpr hn)
  simp only [Bool.and_eq_true, beq_iff_eq, decide_eq_true_eq] at h
  exact ⟨h.1.1.1, h.1.1.2, h.1.2, h.2⟩
theorem cmp_dom {m n : Nat} (hm : m < 16) (hn : n < 16) : cmpV .eq (domV m) (domV n) = some (decide (m = n)) := by
  have h1 := eq_at hm hn
  have h2 := eq_at hn hm
  show (if depV (domV m) ≤ 8 ∧ depV (domV n) ≤ 8 then some (eqV (domV m) (domV n)) else none) = _
  rw [if_pos ⟨by lia, by lia⟩, h1.1]
theorem cmp_lot {m n : Nat} (hm : m < 16) (hn : n < 16) : cmpV .ne (lotV m) (lotV n) = some (decide (m ≠ n)) := by
  have h1 := eq_at hm hn
  have h2 := eq_at hn hm
  show (if depV (lotV m) ≤ 8 ∧ depV (lotV n) ≤ 8 then some (!eqV (lotV m) (lotV n)) else none) = _
  rw [if_pos ⟨by lia, by lia⟩, h1.2.1]
  simp
theorem dom0 : domV 0 = .tup [] := rfl
theorem cmp_dom0 {m : Nat} (hm : m < 16) : cmpV .eq (domV m) (.tup []) = some (decide (m = 0)) := cmp_dom hm (by decide : 0 < 16)
noncomputable def saidI (m sg : Nat) (k : Int) : Int := if strikeM m sg k = m then 1 else if strikeM m sg k = 0 then -1 else 0
theorem bE_tuple {v : V} : bltV .tuple [v] = (itemsOf v).bind fun vs => if vs.length ≤ 4096 then some (.tup vs) else none := rfl
theorem b_tuple {v : V} {vs : List V} (h : itemsOf v = some vs) (hl : vs.length ≤ 4096) : bltV .tuple [v] = some (.tup vs) := by rw [bE_tuple, h]; exact if_pos hl
theorem b_list {v : V} {vs : List V} (h : itemsOf v = some vs) (hl : vs.length ≤ 4096) : bltV .list [v] = some (.lst vs) := (congrArg (Option.bind · _) h).trans (if_pos hl)
theorem bE_list {v : V} : bltV .list [v] = (itemsOf v).bind fun vs => if vs.length ≤ 4096 then some (.lst vs) else none := rfl
theorem bE_lt {vs : List V} : bltV .len [.tup vs] = some (.int (vs.length : Int)) := rfl
theorem bE_ll {vs : List V} : bltV .len [.lst vs] = some (.int (vs.length : Int)) := rfl
theorem bE_s {v : V} : bltV .sorted [v] = (itemsOf v).bind fun vs => (intsOf vs).bind fun is => if is.length < 64 then some (.lst ((sortI is).map .int)) else none := rfl
theorem bE_r2 {a b : Int} : bltV .range [.int a, .int b] = if okR a && okR b then some (.rng a b 1) else none := rfl
theorem bE_r1 {b : Int} : bltV .range [.int b] = if okR b then some (.rng 0 b 1) else none := rfl
end Mine.Internal.P
namespace Mine.Internal.P
theorem said_sp (c : Nat) {X : V} {m sg : Nat} {k : Int} (hm : m < 16) (hs : sg < 4) (hk : -3 ≤ k ∧ k ≤ 6) :
    callN prog (c + 4) 8 [.val (.tup [X, .str sg, .int k]), .val (domV m)] [] = some (.val (.int (saidI m sg k)), []) := by
  have h0 := struck_sp c (X := X) hm hs hk
  have h1 := cmp_dom (strikeM_lt (m := m) (sg := sg) (k := k)) hm
  have h2 := cmp_dom0 (strikeM_lt (m := m) (sg := sg) (k := k))
  refine run_fnT (fd := f_said_of) rfl rfl rfl ?_
  unfold saidI
  by_cases a : strikeM m sg k = m
  · rw [decide_eq_true a] at h1
    rw [if_pos a]
    exact run_V h0 (run_V h1 (run_d rfl))
  · rw [decide_eq_false a] at h1
    rw [if_neg a]
    by_cases b : strikeM m sg k = 0
    · rw [decide_eq_true b] at h2
      rw [if_pos b]
      exact run_V h0 (run_V h1 (run_V h2 (run_d rfl)))
    · rw [decide_eq_false b] at h2
      rw [if_neg b]
      exact run_V h0 (run_V h1 (run_V h2 (run_d rfl)))
structure Lit where
  x : Nat
  sg : Nat
  k : Int
noncomputable def Lit.v (l : Lit) : V := .tup [nV l.x, .str l.sg, .int l.k]
noncomputable def negL (l : Lit) : Lit := match l.sg with
  | 0 => ⟨l.x, 1, l.k + 1⟩
  | 1 => ⟨l.x, 0, l.k - 1⟩
  | 2 => ⟨l.x, 3, l.k⟩
  | _ => ⟨l.x, 2, l.k⟩
theorem neg_sp (c : Nat) (l : Lit) (hs : l.sg < 4) : callN prog (c + 1) 6 [.val l.v] [] = some (.val (negL l).v, []) := by
  obtain ⟨x, sg, k⟩ := l
  match sg, hs with
  | 0, _ => kernel_rfl
  | 1, _ => kernel_rfl
  | 2, _ => kernel_rfl
  | 3, _ => kernel_rfl
  | n + 4, h => exact absurd h (by show ¬ n + 4 < 4; lia)
structure Ent where
  x : Nat
  m : Nat
  l : Lit
  rs : Option (List Lit)
noncomputable def rsV : Option (List Lit) → V
  | none => .none
  | some R => .tup (R.map Lit.v)
noncomputable def Ent.v (e : Ent) : V := .tup [nV e.x, domV e.m, e.l.v, rsV e.rs, .int (-1)]
structure St where
  ms : List Nat
  tr : List Ent
  failed : Bool
  clash : List Lit
  n : Nat
noncomputable def sfs (failed : Bool) (clash : V) : List (Nat × RV) :=
  [(14, .ref 1), (15, .ref 2), (16, .ref 3), (17, .ref 4), (18, .ref 5), (19, .val (.int (-1))), (20, .val (.bool failed)), (21, .val clash)]
noncomputable def SH (failed : Bool) (clash : V) (doms firsts trail marks : List V) (n : Nat) (rest : Hp) : Hp :=
  .inst 0 (sfs failed clash) :: .mlst doms :: .mlst firsts :: .mlst trail :: .mlst marks :: .idict n :: rest
section
variable {fl fl' : Bool} {cl cl' : V} {d d' f f' t t' m m' : List V} {n n' : Nat} {r r' : Hp}
theorem SHl : (SH fl cl d f t m n r).length = r.length + 6 := rfl
theorem dropSH {v : RV} : dropTo (SH fl cl d f t m n r).length (v, SH fl' cl' d' f' t' m' n' r) = (v, SH fl' cl' d' f' t' m' n' r) := by
  unfold dropTo
  split
  · rw [SHl, ← SHl (fl := fl') (cl := cl') (d := d') (f := f') (t := t') (m := m') (n := n') (r := r), List.take_length]
  · rfl
end
theorem sfs_m {fl cl} : ∀ x, x = 10 ∨ x = 64 → lookupL x (sfs fl cl) = none := fun x h => by rcases h with rfl | rfl <;> rfl
theorem atIdx_nat (xs : List V) (i : Nat) : atIdx xs (i : Int) = xs[i]? := by
  unfold atIdx
  rw [if_pos (Int.natCast_nonneg i)]; rfl
theorem posIdx_nat {n i : Nat} (h : i < n) : posIdx n (i : Int) = some i := by
  unfold posIdx
  rw [if_pos (Int.natCast_nonneg i)]
  simp [h]
noncomputable def hpOf (fi ma : List V) (rest : Hp) (st : St) : Hp := SH st.failed (.tup (st.clash.map Lit.v)) (st.ms.map domV) fi (st.tr.map Ent.v) ma st.n rest
noncomputable def enterS (st : St) (l : Lit) (rs : Option (List Lit)) : Bool × St :=
  let m := st.ms.getD l.x 0
  let m' := strikeM m l.sg l.k
  if m' = 0 then (false, { st with failed := true, clash := rs.getD [] ++ [negL l] })
  else if m' = m then (true, st)
  else (true, { st with ms := st.ms.set l.x m', tr := st.tr ++ [⟨l.x, m, l, rs⟩], n := st.n + 1 })
theorem enterS_0 {st : St} {l : Lit} {rs : Option (List Lit)} (h : strikeM (st.ms.getD l.x 0) l.sg l.k = 0) : enterS st l rs = (false, { st with failed := true, clash := rs.getD [] ++ [negL l] }) := if_pos h
theorem enterS_1 {st : St} {l : Lit} {rs : Option (List Lit)} (h0 : ¬ strikeM (st.ms.getD l.x 0) l.sg l.k = 0) (h : strikeM (st.ms.getD l.x 0) l.sg l.k = st.ms.getD l.x 0) : enterS st l rs = (true, st) := (if_neg h0).trans (if_pos h)
theorem enterS_2 {st : St} {l : Lit} {rs : Option (List Lit)} (h0 : ¬ strikeM (st.ms.getD l.x 0) l.sg l.k = 0) (h : ¬ strikeM (st.ms.getD l.x 0) l.sg l.k = st.ms.getD l.x 0) : enterS st l rs = (true, { st with ms := st.ms.set l.x (strikeM (st.ms.getD l.x 0) l.sg l.k), tr := st.tr ++ [⟨l.x, st.ms.getD l.x 0, l, rs⟩], n := st.n + 1 }) := (if_neg h0).trans (if_neg h)
structure Ok (st : St) : Prop where
  m : ∀ m ∈ st.ms, m < 16 ∧ m ≠ 0
  n : st.n < 40
  t : st.tr.length < 40
noncomputable def Lit.ok (l : Lit) (N : Nat) : Prop := l.x < N ∧ l.sg < 4 ∧ -3 ≤ l.k ∧ l.k ≤ 6
theorem addT {a b : List V} (h : a.length + b.length ≤ 4096) : binV .add (.tup a) (.tup b) = some (.tup (a ++ b)) := if_pos h
theorem addL {a b : List V} (h : a.length + b.length ≤ 4096) : binV .add (.lst a) (.lst b) = some (.lst (a ++ b)) := if_pos h
theorem addI {a b : Int} : binV .add (.int a) (.int b) = some (.int (a + b)) := rfl
theorem subI {a b : Int} : binV .sub (.int a) (.int b) = some (.int (a - b)) := rfl
theorem failV_sp (c : Nat) {fl cl d f t m n r} {v : V} {R : List V} (hv : itemsOf v = some R) (hR : R.length ≤ 4096) : callN prog (c + 1) 19 [.ref 0, .val v] (SH fl cl d f t m n r) = some (.val (.bool false), SH true (.tup R) d f t m n r) := by
  refine run_fnT (fd := f_Store_fail) rfl rfl rfl ?_
  have h := b_tuple hv hR
  exact run_V rfl (run_V h (run_V rfl (run_d rfl)))
theorem fail_sp (c : Nat) {fl cl d f t m n r} {R : List V} (hR : R.length ≤ 4096) : callN prog (c + 1) 19 [.ref 0, .val (.tup R)] (SH fl cl d f t m n r) = some (.val (.bool false), SH true (.tup R) d f t m n r) := failV_sp c rfl hR
theorem amS {c f : Nat} {vs : List RV} {fl fl' cl cl' d d' f1 f1' t t' m m' n n' r} {v : RV} (h : callN prog c f vs (SH fl cl d f1 t m n r) = some (v, SH fl' cl' d' f1' t' m' n' r)) : dcall (callN prog c) f vs (SH fl cl d f1 t m n r) = some (v, SH fl' cl' d' f1' t' m' n' r) := am h dropSH
theorem enter_sp (c : Nat) {fi ma rest} {st : St} {l : Lit} {rs : Option (List Lit)} (ok : Ok st) (hl : l.ok st.ms.length) (hr : ∀ R, rs = some R → R.length ≤ 2000) :
    callN prog (c + 4) 16 [.ref 0, .val l.v, .val (rsV rs), .val (.int (-1))] (hpOf fi ma rest st) = some (.val (.bool (enterS st l rs).1), hpOf fi ma rest (enterS st l rs).2) := by
  obtain ⟨hx, hs, hk⟩ := hl
  have hms : st.ms[l.x]? = some (st.ms.getD l.x 0) := by rw [List.getD_eq_getElem?_getD, List.getElem?_eq_getElem hx]; rfl
  obtain ⟨hm, hm0⟩ := ok.m _ (List.mem_of_getElem? hms)
  have hd : (st.ms.map domV)[l.x]? = some (domV (st.ms.getD l.x 0)) := by rw [List.getElem?_map, hms]; rfl
  have ht : (st.tr.map Ent.v).length < 4096 := by rw [List.length_map]; have := ok.t; lia
  have hn : st.n < 64 := by have := ok.n; lia
  have hp : posIdx (st.ms.map domV).length (l.x : Int) = some l.x := posIdx_nat (by rw [List.length_map]; exact hx)
  have hat : atIdx (st.ms.map domV) (l.x : Int) = some (domV (st.ms.getD l.x 0)) := (atIdx_nat _ _).trans hd
  refine run_fnT (fd := f_Store_enter) rfl rfl rfl ?_
  have hk' := struck_sp c (X := .int (l.x : Int)) hm hs hk
  have h1 := cmp_dom (strikeM_lt (m := st.ms.getD l.x 0) (sg := l.sg) (k := l.k)) hm
  have h2 := cmp_dom0 (strikeM_lt (m := st.ms.getD l.x 0) (sg := l.sg) (k := l.k))
  by_cases b : strikeM (st.ms.getD l.x 0) l.sg l.k = 0
  · rw [decide_eq_true b] at h2
    have hneg := neg_sp (c + 2) l hs
    rw [enterS_0 b]
    induction rs with
    | none =>
      have hf := amS (fail_sp (c + 2) (fl := st.failed) (cl := .tup (st.clash.map Lit.v)) (d := st.ms.map domV) (f := fi) (t := st.tr.map Ent.v) (m := ma) (n := st.n) (r := rest) (R := [(negL l).v]) (by simp))
      exact run_V rfl (run_V hat (run_V hk' (run_V h2 (run_V rfl (run_V rfl (run_V hneg (run_V rfl (run_V hf (run_d rfl)))))))))
    | some R =>
      have hlen := addT (a := R.map Lit.v) (b := [negL l].map Lit.v) (by have := hr R rfl; simp; lia)
      rw [← List.map_append] at hlen
      have hf := amS (fail_sp (c + 2) (fl := st.failed) (cl := .tup (st.clash.map Lit.v)) (d := st.ms.map domV) (f := fi) (t := st.tr.map Ent.v) (m := ma) (n := st.n) (r := rest) (R := (R ++ [negL l]).map Lit.v) (by have := hr R rfl; simp; lia))
      exact run_V rfl (run_V hat (run_V hk' (run_V h2 (run_V rfl (run_V rfl (run_V hneg (run_V hlen (run_V hf (run_d rfl)))))))))
  · rw [decide_eq_false b] at h2
    by_cases a : strikeM (st.ms.getD l.x 0) l.sg l.k = st.ms.getD l.x 0
    · rw [decide_eq_true a] at h1
      rw [enterS_1 b a]
      exact run_V rfl (run_V hat (run_V hk' (run_V h2 (run_V h1 (run_d rfl)))))
    · rw [decide_eq_false a] at h1
      rw [enterS_2 b a]
      have ht := gd_t ht
      have hn := gd_t hn
      have e1 : (st.tr ++ [(⟨l.x, st.ms.getD l.x 0, l, rs⟩ : Ent)]).map Ent.v = st.tr.map Ent.v ++ [Ent.v ⟨l.x, st.ms.getD l.x 0, l, rs⟩] := List.map_append ..
      have e2 : (st.ms.set l.x (strikeM (st.ms.getD l.x 0) l.sg l.k)).map domV = (st.ms.map domV).set l.x (domV (strikeM (st.ms.getD l.x 0) l.sg l.k)) := List.map_set
      unfold hpOf
      rw [e1, e2]
      exact run_V rfl (run_V hat (run_V hk' (run_V h2 (run_V h1 (run_V ht (run_V hp (run_V hn (run_d rfl))))))))
end Mine.Internal.P
namespace Mine.Internal.P
theorem atDom {st : St} {x : Nat} (hx : x < st.ms.length) : (st.ms.map domV)[x]? = some (domV (st.ms.getD x 0)) := by
  rw [List.getElem?_map, List.getD_eq_getElem?_getD, List.getElem?_eq_getElem hx]; rfl
theorem iDom {st : St} {x : Nat} (hx : x < st.ms.length) : atIdx (st.ms.map domV) (x : Int) = some (domV (st.ms.getD x 0)) := (atIdx_nat _ _).trans (atDom hx)
theorem Ok.at {st : St} (ok : Ok st) {x : Nat} (hx : x < st.ms.length) : st.ms.getD x 0 < 16 ∧ st.ms.getD x 0 ≠ 0 := by
  rw [List.getD_eq_getElem?_getD, List.getElem?_eq_getElem hx]
  exact ok.m _ (List.getElem_mem hx)
section
variable {fi ma : List V} {rest : Hp} {st : St}
theorem low_sp (c : Nat) {x : Nat} (ok : Ok st) (hx : x < st.ms.length) : callN prog (c + 2) 13 [.ref 0, .val (.int (x : Int))] (hpOf fi ma rest st) = some (.val (.int (loM (st.ms.getD x 0))), hpOf fi ma rest st) := by
  have h := least_sp c (ok.at hx).1 (ok.at hx).2
  have hd := iDom hx
  refine run_fnT (fd := f_Store_low) rfl rfl rfl ?_
  exact run_V hd (run_V h (run_d rfl))
theorem high_sp (c : Nat) {x : Nat} (ok : Ok st) (hx : x < st.ms.length) : callN prog (c + 2) 14 [.ref 0, .val (.int (x : Int))] (hpOf fi ma rest st) = some (.val (.int (hiM (st.ms.getD x 0))), hpOf fi ma rest st) := by
  have h := greatest_sp c (ok.at hx).1 (ok.at hx).2
  have hd := iDom hx
  refine run_fnT (fd := f_Store_high) rfl rfl rfl ?_
  exact run_V hd (run_V h (run_d rfl))
theorem strike_sp (c : Nat) {l : Lit} {R : List Lit} (ok : Ok st) (hl : l.ok st.ms.length) (hr : R.length ≤ 2000) :
    callN prog (c + 5) 17 [.ref 0, .val l.v, .val (.lst (R.map Lit.v))] (hpOf fi ma rest st) = some (.val (.bool (enterS st l (some R)).1), hpOf fi ma rest (enterS st l (some R)).2) := by
  have h := amS (enter_sp c (fi := fi) (ma := ma) (rest := rest) (rs := some R) ok hl (fun _ e => by obtain rfl := Option.some.inj e; exact hr))
  have hb := b_tuple (v := .lst (R.map Lit.v)) rfl (by rw [List.length_map]; lia)
  refine run_fnT (fd := f_Store_strike) rfl rfl rfl ?_
  exact run_V rfl (run_V hb (run_V h (run_d rfl)))
theorem decide_sp (c : Nat) {l : Lit} (ok : Ok st) (hl : l.ok st.ms.length) :
    callN prog (c + 5) 18 [.ref 0, .val l.v] (hpOf fi ma rest st) = some (.val (.bool (enterS st l none).1), hpOf fi ma rest (enterS st l none).2) := by
  have h := amS (enter_sp c (fi := fi) (ma := ma) (rest := rest) (rs := none) ok hl (fun _ e => by exact nS e))
  refine run_fnT (fd := f_Store_decide) rfl rfl rfl ?_
  exact run_V rfl (run_V h (run_d rfl))
theorem holds_sp (c : Nat) {l : Lit} (ok : Ok st) (hl : l.ok st.ms.length) :
    callN prog (c + 5) 15 [.ref 0, .val l.v] (hpOf fi ma rest st) = some (.val (.int (saidI (st.ms.getD l.x 0) l.sg l.k)), hpOf fi ma rest st) := by
  obtain ⟨hx, hs, hk⟩ := hl
  have h := said_sp c (X := .int (l.x : Int)) (ok.at hx).1 hs hk
  have hd := iDom hx
  refine run_fnT (fd := f_Store_holds) rfl rfl rfl ?_
  exact run_V rfl (run_V hd (run_V h (run_d rfl)))
theorem b_lenM {α : Type} {f : α → V} {xs : List α} : bltV .len [.lst (xs.map f)] = some (.int (xs.length : Int)) := by
  show some (V.int ((xs.map f).length : Int)) = _
  rw [List.length_map]
theorem b_lenT {α : Type} {f : α → V} {xs : List α} : bltV .len [.tup (xs.map f)] = some (.int (xs.length : Int)) := by
  show some (V.int ((xs.map f).length : Int)) = _
  rw [List.length_map]
theorem size_sp (c : Nat) : callN prog (c + 1) 11 [.ref 0] (hpOf fi ma rest st) = some (.val (.int (st.ms.length : Int)), hpOf fi ma rest st) := by
  refine run_fnT (fd := f_Store_size) rfl rfl rfl ?_
  exact run_V b_lenM (run_d rfl)
theorem dom_sp (c : Nat) {x : Nat} (hx : x < st.ms.length) : callN prog (c + 1) 12 [.ref 0, .val (.int (x : Int))] (hpOf fi ma rest st) = some (.val (domV (st.ms.getD x 0)), hpOf fi ma rest st) := by
  have hd := iDom hx
  refine run_fnT (fd := f_Store_dom) rfl rfl rfl ?_
  exact run_V hd (run_d rfl)
theorem push_sp (c : Nat) (hm : ma.length < 4096) : callN prog (c + 1) 20 [.ref 0] (hpOf fi ma rest st) = some (.val .none, hpOf fi (ma ++ [.int (st.tr.length : Int)]) rest st) := by
  have h := gd_t hm
  refine run_fnT (fd := f_Store_push) rfl rfl rfl ?_
  exact run_V b_lenM (run_V h (run_d rfl))
end
theorem forItems_flat {f : V → Hp → Option (List V × Hp)} {α : Type} {enc : α → V} {g : α → List V} {hp : Hp} {items : List α} (h : ∀ x ∈ items, f (enc x) hp = some (g x, hp)) : forItems f (items.map enc) hp = some (items.flatMap g, hp) := by
  induction items with
  | nil => rfl
  | cons x r ih =>
    show obn (f (enc x) hp) _ = _
    rw [h x (.head _), obn_eq]
    show obn (forItems f (r.map enc) hp) _ = _
    rw [ih (fun y m => h y (.tail _ m)), obn_eq]
    rfl
theorem forItems_map {f : V → Hp → Option (List V × Hp)} {α : Type} {enc : α → V} {g : α → V} {hp : Hp} {items : List α} (h : ∀ x ∈ items, f (enc x) hp = some ([g x], hp)) : forItems f (items.map enc) hp = some (items.map g, hp) :=
  (forItems_flat h).trans (by rw [show items.flatMap (fun x => [g x]) = items.map g by induction items <;> simp_all])
theorem forItems_filter {f : V → Hp → Option (List V × Hp)} {α : Type} {enc : α → V} {p : α → Bool} {g : α → V} {hp : Hp} {items : List α} (h : ∀ x ∈ items, f (enc x) hp = some (if p x = true then [g x] else [], hp)) : forItems f (items.map enc) hp = some ((items.filter p).map g, hp) :=
  (forItems_flat h).trans (by
    congr 2
    clear h
    induction items with
    | nil => rfl
    | cons x r ih => rw [List.flatMap_cons, ih, List.filter_cons]; cases p x <;> rfl)
noncomputable def ptV (p : List Int) : V := .tup (p.map .int)
noncomputable def ptsV (ps : List (List Int)) : V := .lst (ps.map ptV)
noncomputable def lotI (m : Nat) : List Int := (valsM m).map fun (v : Nat) => (v : Int)
theorem lotV_eq (m : Nat) : lotV m = .lst ((lotI m).map .int) := congrArg V.lst (by unfold lotI; rw [List.map_map]; rfl)
theorem depL_int (l : List Int) : depL (l.map .int) = 0 := by
  induction l with
  | nil => rfl
  | cons a r ih => (show max 0 (depL (r.map V.int)) = 0); rw [ih]; rfl
theorem depV_pt (p : List Int) : depV (ptV p) = 1 := congrArg (· + 1) (depL_int p)
theorem depL_pts (ps : List (List Int)) : depL (ps.map ptV) ≤ 1 := by
  induction ps with
  | nil => simp [depL]
  | cons a r ih => simp [depL, depV_pt]; lia
noncomputable def saysL (l : Lit) (v : Int) : Bool := saysI l.sg l.k v
theorem says_sp (c : Nat) (l : Lit) (v : Int) (hs : l.sg < 4) : callN prog (c + 1) 34 [.val l.v, .val (.int v)] [] = some (.val (.bool (saysL l v)), []) := by
  obtain ⟨x, sg, k⟩ := l
  unfold saysL
  match sg, hs with
  | 0, _ => kernel_rfl
  | 1, _ => kernel_rfl
  | 2, _ => kernel_rfl
  | 3, _ =>
    have h : callN prog (c + 1) 34 [.val (Lit.v ⟨x, 3, k⟩), .val (.int v)] [] = some (.val (.bool (!(v == k))), []) := by kernel_rfl
    rw [h]
    exact congrArg (fun b => some (RV.val (V.bool b), ([] : Hp))) (by by_cases e : v = k <;> simp [saysI, e])
  | n + 4, h => exact absurd h (by show ¬ n + 4 < 4; lia)
end Mine.Internal.P
namespace Mine.Internal.P
theorem cmp_nil {xs : List V} (h : depL xs ≤ 7) : cmpV .eq (.lst xs) (.lst []) = some xs.isEmpty := by
  show (if depV (.lst xs) ≤ 8 ∧ depV (.lst []) ≤ 8 then some (eqV (.lst xs) (.lst [])) else none) = _
  rw [if_pos ⟨by show depL xs + 1 ≤ 8; lia, by decide⟩]
  rcases xs with _ | _ <;> rfl
theorem cmp_nnil {xs : List V} (h : depL xs ≤ 7) : cmpV .ne (.lst xs) (.lst []) = some (!xs.isEmpty) := by
  show (if depV (.lst xs) ≤ 8 ∧ depV (.lst []) ≤ 8 then some (!(eqV (.lst xs) (.lst []))) else none) = _
  rw [if_pos ⟨by show depL xs + 1 ≤ 8; lia, by decide⟩]
  rcases xs with _ | _ <;> rfl
theorem depV_lit (l : Lit) : depV l.v = 1 := rfl
theorem depL_map {α : Type} {f : α → V} {n : Nat} (h : ∀ x, depV (f x) ≤ n) : ∀ l : List α, depL (l.map f) ≤ n
  | [] => Nat.zero_le _
  | x :: r => by
    have := depL_map h r
    have := h x
    simp only [List.map_cons, depL]
    lia
theorem filter_empty {α : Type} (p : α → Bool) (l : List α) : (l.filter p).isEmpty = l.all fun x => !p x := by
  induction l with
  | nil => rfl
  | cons x r ih =>
    rw [List.filter_cons]
    cases h : p x <;> simp [h, ih]
theorem map_empty {α β : Type} (f : α → β) (l : List α) : (l.map f).isEmpty = l.isEmpty := by rcases l with _ | _ <;> rfl
noncomputable def hasAll (R : List Lit) (p : List Int) : Bool := R.all fun l => saysL l (p.getD l.x 0)
theorem atPt {p : List Int} {x : Nat} (h : x < p.length) : (p.map V.int)[x]? = some (.int (p.getD x 0)) := by
  rw [List.getElem?_map, List.getD_eq_getElem?_getD, List.getElem?_eq_getElem h]; rfl
theorem iPt {p : List Int} {x : Nat} (h : x < p.length) : atIdx (p.map V.int) (x : Int) = some (.int (p.getD x 0)) := (atIdx_nat _ _).trans (atPt h)
theorem has_all_sp (c : Nat) {R : List Lit} {p : List Int} (h : ∀ l ∈ R, l.sg < 4 ∧ l.x < p.length) (hR : R.length ≤ 4096) :
    callN prog (c + 2) 35 [.val (.tup (R.map Lit.v)), .val (ptV p)] [] = some (.val (.bool (hasAll R p)), []) := by
  have hc : ∀ d, compTop (evD prog (callN prog (c + 1)) (d + 10)) (.loc 60) (.name 60) [(.not (.call 34 [(.loc 60), (.idx (.loc 56) (.idx (.loc 60) (.cint 0)))]))] [] [(56, .val (.tup (p.map .int)))] (R.map Lit.v) [] = some ((R.filter fun l => !saysL l (p.getD l.x 0)).map Lit.v, []) := fun d => by
    refine forItems_filter fun l hl => turn_of rfl ?_
    have hs := says_sp c l (p.getD l.x 0) (h l hl).1
    have hp := iPt (h l hl).2
    cases q : saysL l (p.getD l.x 0)
    · rw [q] at hs
      exact run_K rfl (run_K hp (run_K hs (run_done rfl)))
    · rw [q] at hs
      exact run_K rfl (run_K hp (run_K hs (run_done rfl)))
  have hlen := gd_t (show ((R.filter fun l => !saysL l (p.getD l.x 0)).map Lit.v).length ≤ 4096 by rw [List.length_map]; exact Nat.le_trans (List.length_filter_le _ _) hR)
  have hcmp := cmp_nil (xs := List.map Lit.v (List.filter (fun l => !saysL l (p.getD l.x 0)) R)) (Nat.le_trans (depL_map (fun l => Nat.le_of_eq (depV_lit l)) _) (by decide))
  rw [map_empty, filter_empty, show (R.all fun x => !!saysL x (p.getD x.x 0)) = hasAll R p by simp [hasAll]] at hcmp
  refine run_fnT (fd := f_law_has_all) rfl rfl rfl ?_
  exact run_V (hc _) (run_V hlen (run_V hcmp (run_d rfl)))
noncomputable def nextPts (found : List (List Int)) (lot : List Int) : List (List Int) := found.flatMap fun one => lot.map fun v => one ++ [v]
noncomputable def pointsI (lots : List (List Int)) : List (List Int) := lots.foldl nextPts [[]]
theorem flatMap_len {α β : Type} {f : α → List β} {n : Nat} : ∀ {l : List α}, (∀ x ∈ l, (f x).length ≤ n) → (l.flatMap f).length ≤ l.length * n
  | [] => @fun _ => by simp
  | x :: r => @fun h => by
    have := flatMap_len (l := r) fun y m => h y (.tail _ m)
    have := h x (.head _)
    simp only [List.flatMap_cons, List.length_append, List.length_cons, Nat.succ_mul]
    lia
theorem nextPts_len {found : List (List Int)} {lot : List Int} (h : lot.length ≤ 4) : (nextPts found lot).length ≤ found.length * 4 :=
  flatMap_len fun x _ => by simpa using h
theorem nextPts_mem {found : List (List Int)} {lot : List Int} {n : Nat} (h : ∀ p ∈ found, p.length ≤ n) : ∀ p ∈ nextPts found lot, p.length ≤ n + 1 := by
  intro p hp
  obtain ⟨q, hq, hp⟩ := List.mem_flatMap.mp hp
  obtain ⟨v, hv, rfl⟩ := List.mem_map.mp hp
  have := h q hq
  simp; lia
theorem nextPts_sp {C : CallT} (d : Nat) {found : List (List Int)} {lot : List Int} {lv : V} (hl : itemsOf lv = some (lot.map .int)) (hp : ∀ p ∈ found, p.length ≤ 100) (loc : Loc) (hpp : Hp) :
    compTop (evD prog C (d + 10)) (.bin .add (.loc 60) (.tup [(.loc 4)])) (.name 60) [] [((.name 4), (.loc 62), [])] [(62, .val lv)] (found.map ptV) hpp = some ((nextPts found lot).map ptV, hpp) := by
  have : ((nextPts found lot).map ptV) = found.flatMap (fun one => lot.map fun v => ptV (one ++ [v])) := by
    simp [nextPts, List.map_flatMap, Function.comp_def]
  rw [this]
  refine forItems_flat fun one ho => ?_
  show obn (some (true, hpp)) (fun ok hp1 => cond ok (obn (some (.val lv, hp1)) fun iv hp1 => vVal none iv fun iv => vS none (itemsOf iv) fun items => forItems _ items hp1) (some ([], hp1))) = _
  rw [obn_eq]
  show obn (some (RV.val lv, hpp)) _ = _
  rw [obn_eq]
  show vS none (itemsOf lv) _ = _
  rw [hl]
  refine forItems_map fun v hv => turn_of rfl ?_
  have h1 := addT (a := one.map .int) (b := [V.int v]) (by have := hp one ho; simp; lia)
  rw [show one.map .int ++ [V.int v] = (one ++ [v]).map V.int by simp] at h1
  exact run_K h1 (run_done rfl)
theorem lookS (x y : Nat) (v : RV) : ∀ loc : Loc, lookupL y (setL x v loc) = if y = x then some v else lookupL y loc
  | [] => by
    unfold setL lookupL
    split <;> rfl
  | (z, w) :: r => by
    unfold setL
    by_cases h : x = z
    · subst h
      rw [if_pos rfl]
      unfold lookupL
      by_cases q : y = x
      · simp [q]
      · simp [q]
    · rw [if_neg h]
      unfold lookupL
      by_cases q : y = z
      · subst q
        rw [if_pos rfl, if_pos rfl, if_neg (fun e => h e.symm)]
      · rw [if_neg q, if_neg q]
        exact lookS x y v r
theorem forGo_next {S : V → Loc → Hp → Option (Out × Loc × Hp)} {x : V} {r : List V} {loc loc' : Loc} {hp hp' : Hp} (h : S x loc hp = some (.next, loc', hp')) : forGo S (x :: r) loc hp = forGo S r loc' hp' := by
  show obs (S x loc hp) (forGo S r) = _
  rw [h, obs_eq]
  rfl
theorem forGo_ret {S : V → Loc → Hp → Option (Out × Loc × Hp)} {x : V} {r : List V} {v : RV} {loc loc' : Loc} {hp hp' : Hp} (h : S x loc hp = some (.ret v, loc', hp')) : forGo S (x :: r) loc hp = some (.ret v, loc', hp') := by
  show obs (S x loc hp) (forGo S r) = _
  rw [h, obs_eq]
  rfl
noncomputable def locP (lv : Option V) (a f : V) : Loc := (61, .val a) :: (6, .val f) :: @Option.casesOn V (fun _ => Loc) lv [] fun v => [(62, .val v)]
theorem points_go {C : CallT} (d : Nat) {a : V} : ∀ (lvs : List V) (lots : List (List Int)) (found : List (List Int)) (o : Option V) (hpp : Hp),
    lvs.length = lots.length → (∀ (i : Nat) lv l, lvs[i]? = some lv → lots[i]? = some l → itemsOf lv = some (l.map .int) ∧ l.length ≤ 4) → found.length * 4 ^ lots.length ≤ 4096 → (∀ p ∈ found, p.length + lots.length ≤ 100) →
    ∃ o', forGo (forB (evD prog C (d + 15)) (.name 62) [(.asg (.name 6) (.comp false [62] (.bin .add (.loc 60) (.tup [(.loc 4)])) [((.name 60), (.loc 6), []), ((.name 4), (.loc 62), [])]))]) lvs (locP o a (ptsV found)) hpp = some (.next, locP o' a (ptsV (lots.foldl nextPts found)), hpp)
  | [], [] => @fun found o hpp _ _ _ _ => ⟨o, rfl⟩
  | [], _ :: _ => @fun _ _ _ h _ _ _ => by simp at h
  | _ :: _, [] => @fun _ _ _ h _ _ _ => by simp at h
  | lv :: lvs, lot :: lots => @fun found o hpp hlen hl hb hp => by
    obtain ⟨hi, h4⟩ := hl 0 lv lot rfl rfl
    have hpow : found.length * 4 ^ (lots.length + 1) = found.length * 4 * 4 ^ lots.length := by rw [Nat.pow_succ, Nat.mul_assoc, Nat.mul_comm 4]
    have hb : found.length * 4 ^ (lots.length + 1) ≤ 4096 := hb
    rw [hpow] at hb
    have hfl : found.length * 4 ≤ 4096 := Nat.le_trans (Nat.le_mul_of_pos_right _ (Nat.pos_of_ne_zero (by simp))) hb
    have hn := nextPts_len (found := found) h4
    have hc := nextPts_sp (C := C) (d + 3) (found := found) hi (fun p m => by have := hp p m; lia) [] hpp
    obtain ⟨o', e⟩ := points_go d lvs lots (nextPts found lot) (some lv) hpp (by simpa using hlen) (fun i lv l a b => hl (i + 1) lv l (by simpa using a) (by simpa using b))
      (Nat.le_trans (Nat.mul_le_mul_right _ hn) hb)
      (fun p m => by
        obtain ⟨q, hq, m⟩ := List.mem_flatMap.mp m
        obtain ⟨v, hv, rfl⟩ := List.mem_map.mp m
        have := hp q hq
        simp at this ⊢; lia)
    refine ⟨o', ?_⟩
    have hlen2 := gd_t (show ((nextPts found lot).map ptV).length ≤ 4096 by rw [List.length_map]; lia)
    induction o with
    | none =>
      refine (forGo_next (run_forB rfl ?_)).trans e
      exact run_K hc (run_K hlen2 (run_done rfl))
    | some w =>
      refine (forGo_next (run_forB rfl ?_)).trans e
      exact run_K hc (run_K hlen2 (run_done rfl))
theorem points_sp (c : Nat) {lvs : List V} {lots : List (List Int)} (hlen : lvs.length = lots.length) (hl : ∀ (i : Nat) lv l, lvs[i]? = some lv → lots[i]? = some l → itemsOf lv = some (l.map .int) ∧ l.length ≤ 4) (h4 : lots.length ≤ 4) :
    callN prog (c + 1) 36 [.val (.lst lvs)] [] = some (.val (ptsV (pointsI lots)), []) := by
  have hb : ([[]] : List (List Int)).length * 4 ^ lots.length ≤ 4096 := by
    have : 4 ^ lots.length ≤ 4 ^ 4 := Nat.pow_le_pow_right (by decide) h4
    simp; lia
  obtain ⟨o', e⟩ := points_go (C := callN prog c) 8 (a := .lst lvs) lvs lots [[]] none [] hlen hl hb (fun p m => by simp at m; subst m; simp; lia)
  refine run_fnT (fd := f_law_points) rfl rfl rfl ?_
  cases o' <;> exact run_V e (run_d rfl)
end Mine.Internal.P
namespace Mine.Internal.P
theorem eqI (a b : Int) : cmpV .eq (.int a) (.int b) = some (decide (a = b)) := by
  show (if 0 ≤ 8 ∧ 0 ≤ 8 then some (a == b) else none) = _
  rw [if_pos (by decide)]; rfl
theorem neI (a b : Int) : cmpV .ne (.int a) (.int b) = some (!decide (a = b)) := by
  show (if 0 ≤ 8 ∧ 0 ≤ 8 then some (!(a == b)) else none) = _
  rw [if_pos (by decide)]; rfl
theorem gtI (a b : Int) : cmpV .gt (.int a) (.int b) = some (decide (a > b)) := rfl
theorem ltI' (a b : Int) : cmpV .lt (.int a) (.int b) = some (decide (a < b)) := rfl
theorem rng0 (n : Nat) : rngItems 0 (n : Int) 1 = (List.range n).map fun j => .int (j : Int) := by
  unfold rngItems rngN
  rw [if_pos rfl]
  have : ((n : Int) - 0).toNat = n := by lia
  rw [this]
  refine List.map_congr_left fun j _ => ?_
  rw [show (0 : Int) + 1 * (j : Int) = (j : Int) by lia]
theorem rng1 (n : Nat) : rngItems ((1 : Nat) : Int) (n : Int) 1 = (List.range (n - 1)).map fun j => .int ((j + 1 : Nat) : Int) := by
  unfold rngItems rngN
  rw [if_pos rfl]
  have : ((n : Int) - ((1 : Nat) : Int)).toNat = n - 1 := by lia
  rw [this]
  refine List.map_congr_left fun j _ => ?_
  rw [show ((1 : Nat) : Int) + 1 * (j : Int) = ((j + 1 : Nat) : Int) by lia]
theorem b_rng0 {n : Nat} (h : n ≤ 2000) : bltV .range [.int (n : Int)] = some (.rng 0 (n : Int) 1) := by
  show (if okR (n : Int) = true then _ else _) = _
  rw [if_pos (by simp only [okR, Bool.and_eq_true, decide_eq_true_eq]; lia)]
theorem b_rng1 {a n : Nat} (h : n ≤ 2000) (h' : a ≤ 2000) : bltV .range [.int (a : Int), .int (n : Int)] = some (.rng (a : Int) (n : Int) 1) := by
  show (if (okR (a : Int) && okR (n : Int)) = true then _ else _) = _
  rw [if_pos (by simp only [okR, Bool.and_eq_true, decide_eq_true_eq]; lia)]
theorem b_min {a b : Nat} : bltV .min [.int (a : Int), .int (b : Int)] = some (.int ((min a b : Nat) : Int)) := by
  show some (V.int (if (b : Int) < (a : Int) then (b : Int) else (a : Int))) = _
  congr 2
  split <;> lia
theorem sl_to {vs : List V} {n : Nat} : slcV (.tup vs) none (some (n : Int)) = some (.tup (vs.take n)) := by
  show Option.map V.tup (if 0 ≤ (n : Int) then some (vs.take (n : Int).toNat) else none) = _
  rw [if_pos (by lia)]; rfl
theorem sl_from {vs : List V} {n : Nat} : slcV (.tup vs) (some (n : Int)) none = some (.tup (vs.drop n)) := by
  show Option.map V.tup (if 0 ≤ (n : Int) then some (vs.drop (n : Int).toNat) else none) = _
  rw [if_pos (by lia)]; rfl
theorem sl_fromL {vs : List V} {n : Nat} : slcV (.lst vs) (some (n : Int)) none = some (.lst (vs.drop n)) := by
  show Option.map V.lst (if 0 ≤ (n : Int) then some (vs.drop (n : Int).toNat) else none) = _
  rw [if_pos (by lia)]; rfl
noncomputable def lexGo (l r : List Int) : List Nat → Option Bool
  | [] => none
  | k :: ks => if l.getD k 0 = r.getD k 0 then lexGo l r ks else some (decide (l.getD k 0 < r.getD k 0))
noncomputable def keepsI (kind split : Nat) (p : List Int) : Bool :=
  if kind = 2 then (List.range (p.length - 1)).all fun j => !decide (p.getD j 0 > p.getD (j + 1) 0)
  else match lexGo (p.take split) (p.drop split) (List.range (min (p.take split).length (p.drop split).length)) with
    | some b => b
    | none => decide ((p.take split).length < (p.drop split).length) || (decide ((p.take split).length = (p.drop split).length) && decide (kind = 0))
noncomputable def locK (k : Option V) (a b p l r : V) : Loc := (54, .val a) :: (55, .val b) :: (56, .val p) :: (57, .val l) :: (58, .val r) :: @Option.casesOn V (fun _ => Loc) k [] fun v => [(1, .val v)]
theorem keeps_loop (d : Nat) {C : CallT} {l r : List Int} {a b p : V} : ∀ (ks : List Nat) (o : Option V) (hpp : Hp), (∀ k ∈ ks, k < l.length ∧ k < r.length) → ∃ o',
    forGo (forB (evD prog C (d + 10)) (.name 1) [(.iff (.cmp .ne (.idx (.loc 57) (.loc 1)) (.idx (.loc 58) (.loc 1))) [(.ret (some (.cmp .lt (.idx (.loc 57) (.loc 1)) (.idx (.loc 58) (.loc 1)))))] [])]) (ks.map fun (j : Nat) => .int (j : Int)) (locK o a b p (ptV l) (ptV r)) hpp =
      some (match lexGo l r ks with | some b => .ret (.val (.bool b)) | none => .next, locK o' a b p (ptV l) (ptV r), hpp)
  | [] => @fun o hpp _ => ⟨o, rfl⟩
  | k :: ks => @fun o hpp hk => by
    obtain ⟨hl, hr⟩ := hk k (.head _)
    have p1 := iPt hl
    have p2 := iPt hr
    have hne := neI (l.getD k 0) (r.getD k 0)
    have hlt := ltI' (l.getD k 0) (r.getD k 0)
    unfold lexGo
    by_cases e : l.getD k 0 = r.getD k 0
    · obtain ⟨o', q⟩ := keeps_loop d (a := a) (b := b) (p := p) ks (some (.int (k : Int))) hpp (fun j m => hk j (.tail _ m))
      refine ⟨o', ?_⟩
      rw [if_pos e, ← q]
      rw [decide_eq_true e] at hne
      induction o with
      | none =>
        refine forGo_next (run_forB rfl ?_)
        exact run_K p1 (run_K p2 (run_K hne (run_done rfl)))
      | some w =>
        refine forGo_next (run_forB rfl ?_)
        exact run_K p1 (run_K p2 (run_K hne (run_done rfl)))
    · refine ⟨some (.int (k : Int)), ?_⟩
      rw [if_neg e]
      rw [decide_eq_false e] at hne
      induction o with
      | none =>
        refine forGo_ret (run_forB rfl ?_)
        exact run_K p1 (run_K p2 (run_K hne (run_K p1 (run_K p2 (run_K hlt (run_done rfl))))))
      | some w =>
        refine forGo_ret (run_forB rfl ?_)
        exact run_K p1 (run_K p2 (run_K hne (run_K p1 (run_K p2 (run_K hlt (run_done rfl))))))
theorem keeps2_sp (c : Nat) {split : V} {p : List Int} (hp : p.length ≤ 100) : callN prog (c + 1) 33 [.val (.int ((2 : Nat) : Int)), .val split, .val (ptV p)] [] = some (.val (.bool (keepsI 2 0 p)), []) := by
  have h2 := eqI ((2 : Nat) : Int) ((2 : Nat) : Int)
  rw [decide_eq_true rfl] at h2
  have hc : ∀ d, compTop (evD prog (callN prog c) (d + 10)) (.loc 1) (.name 1) [(.cmp .gt (.idx (.loc 56) (.bin .sub (.loc 1) (.cint 1))) (.idx (.loc 56) (.loc 1)))] [] [(56, .val (.tup (p.map .int)))] (rngItems ((1 : Nat) : Int) (p.length : Int) 1) []
      = some (((List.range (p.length - 1)).filter fun j => decide (p.getD j 0 > p.getD (j + 1) 0)).map fun j => .int ((j + 1 : Nat) : Int), []) := fun d => by
    rw [rng1]
    refine forItems_filter fun j hj => turn_of rfl ?_
    have hj' := List.mem_range.mp hj
    have p1 := iPt (p := p) (x := j) (by lia)
    have p2 := iPt (p := p) (x := j + 1) (by lia)
    have e1 : binV .sub (.int ((j + 1 : Nat) : Int)) (.int ((1 : Nat) : Int)) = some (.int (j : Int)) := by rw [subI]; congr 2; lia
    have hg := gtI (p.getD j 0) (p.getD (j + 1) 0)
    cases q : decide (p.getD j 0 > p.getD (j + 1) 0)
    · rw [q] at hg
      exact run_K e1 (run_K p1 (run_K p2 (run_K hg (run_done rfl))))
    · rw [q] at hg
      exact run_K e1 (run_K p1 (run_K p2 (run_K hg (run_done rfl))))
  have hlen := gd_t (show (((List.range (p.length - 1)).filter fun j => decide (p.getD j 0 > p.getD (j + 1) 0)).map fun j => V.int ((j + 1 : Nat) : Int)).length ≤ 4096 by
    have := List.length_filter_le (fun j => decide (p.getD j 0 > p.getD (j + 1) 0)) (List.range (p.length - 1))
    simp at this ⊢; lia)
  have hcmp := cmp_nil (xs := ((List.range (p.length - 1)).filter fun j => decide (p.getD j 0 > p.getD (j + 1) 0)).map fun j => .int ((j + 1 : Nat) : Int)) (Nat.le_trans (depL_map (fun j => Nat.le_refl 0) _) (by decide))
  rw [map_empty, filter_empty, show ((List.range (p.length - 1)).all fun j => !decide (p.getD j 0 > p.getD (j + 1) 0)) = keepsI 2 0 p from rfl] at hcmp
  have hb := b_rng1 (a := 1) (n := p.length) (by lia) (by decide)
  refine run_fnT (fd := f_law_keeps) rfl rfl rfl ?_
  exact run_V h2 (run_V b_lenT (run_V hb (run_V (hc _) (run_V hlen (run_V hcmp (run_d rfl))))))
theorem keeps_sp (c : Nat) {kind split : Nat} {p : List Int} (hk : kind < 2) (hp : p.length ≤ 100) (hs : split ≤ 100) : callN prog (c + 1) 33 [.val (.int (kind : Int)), .val (.int (split : Int)), .val (ptV p)] [] = some (.val (.bool (keepsI kind split p)), []) := by
  have h2 := eqI (kind : Int) ((2 : Nat) : Int)
  rw [decide_eq_false (by lia)] at h2
  have h0 := eqI (kind : Int) ((0 : Nat) : Int)
  rw [show decide ((kind : Int) = ((0 : Nat) : Int)) = decide (kind = 0) by simp] at h0
  have hm : ∀ k ∈ List.range (min (p.take split).length (p.drop split).length), k < (p.take split).length ∧ k < (p.drop split).length := fun k hk => by
    have := List.mem_range.mp hk; lia
  have m1 : slcV (.tup (p.map .int)) none (some (split : Int)) = some (ptV (p.take split)) := by rw [sl_to, ← List.map_take]; rfl
  have m2 : slcV (.tup (p.map .int)) (some (split : Int)) none = some (ptV (p.drop split)) := by rw [sl_from, ← List.map_drop]; rfl
  have hlL : (p.take split).length ≤ 100 := by simp; lia
  generalize hL : p.take split = L at *
  generalize hR : p.drop split = R at *
  obtain ⟨o', q⟩ := keeps_loop (C := callN prog c) 13 (a := .int (kind : Int)) (b := .int (split : Int)) (p := ptV p) (List.range (min L.length R.length)) none [] hm
  rw [← rng0] at q
  have hb := b_rng0 (n := min L.length R.length) (by lia)
  have hlt := ltI' (L.length : Int) (R.length : Int)
  rw [show decide ((L.length : Int) < (R.length : Int)) = decide (L.length < R.length) by simp] at hlt
  have heq := eqI (L.length : Int) (R.length : Int)
  rw [show decide ((L.length : Int) = (R.length : Int)) = decide (L.length = R.length) by rw [decide_eq_decide]; lia] at heq
  have l1 : bltV .len [ptV L] = some (.int (L.length : Int)) := b_lenT
  have l2 : bltV .len [ptV R] = some (.int (R.length : Int)) := b_lenT
  refine run_fnT (fd := f_law_keeps) rfl rfl rfl ?_
  unfold keepsI
  rw [if_neg (by lia), hL, hR]
  induction hg : lexGo L R (List.range (min L.length R.length)) with
  | some b =>
    rw [hg] at q
    exact run_V h2 (run_V m1 (run_V m2 (run_V l1 (run_V l2 (run_V b_min (run_V hb (run_V q (run_d rfl))))))))
  | none =>
    rw [hg] at q
    dsimp only
    induction z1 : decide (L.length < R.length) with
    | true =>
      rw [z1] at hlt
      cases o' <;> exact run_V h2 (run_V m1 (run_V m2 (run_V l1 (run_V l2 (run_V b_min (run_V hb (run_V q (run_V l1 (run_V l2 (run_V hlt (run_d rfl)))))))))))
    | false =>
      rw [z1] at hlt
      induction z2 : decide (L.length = R.length) with
      | false =>
        rw [z2] at heq
        cases o' <;> exact run_V h2 (run_V m1 (run_V m2 (run_V l1 (run_V l2 (run_V b_min (run_V hb (run_V q (run_V l1 (run_V l2 (run_V hlt (run_V l1 (run_V l2 (run_V heq (run_d rfl))))))))))))))
      | true =>
        rw [z2] at heq
        cases o' <;> exact run_V h2 (run_V m1 (run_V m2 (run_V l1 (run_V l2 (run_V b_min (run_V hb (run_V q (run_V l1 (run_V l2 (run_V hlt (run_V l1 (run_V l2 (run_V heq (run_V h0 (run_d rfl)))))))))))))))
theorem intsOf_map (l : List Int) : intsOf (l.map .int) = some l := by
  induction l with
  | nil => rfl
  | cons a r ih => exact (show intsOf (.int a :: r.map .int) = vS none (intsOf (r.map .int)) fun is => some (a :: is) by kernel_rfl).trans (by rw [ih]; rfl)
theorem eqL_int : ∀ (a b : List Int), eqL (a.map .int) (b.map .int) = decide (a = b)
  | [], [] => rfl
  | [], _ :: _ => rfl
  | _ :: _, [] => rfl
  | x :: a, y :: b => by
    show (x == y && eqL (a.map .int) (b.map .int)) = _
    rw [eqL_int a b]
    by_cases h : x = y <;> by_cases h' : a = b <;> simp [h, h']
theorem ltT (a b : List Int) : cmpV .lt (.tup (a.map .int)) (.tup (b.map .int)) = some (ltI a b) := by
  show ((intsOf (a.map .int)).bind fun p => (intsOf (b.map .int)).bind fun q => some (ltI p q)) = _
  rw [intsOf_map, intsOf_map]; rfl
theorem eqT (a b : List Int) : cmpV .eq (.tup (a.map .int)) (.tup (b.map .int)) = some (decide (a = b)) := by
  show (if depL (a.map .int) + 1 ≤ 8 ∧ depL (b.map .int) + 1 ≤ 8 then some (eqL (a.map .int) (b.map .int)) else none) = _
  rw [depL_int, depL_int, if_pos (by decide), eqL_int]
theorem eqLs (a b : List Int) : cmpV .eq (.lst (a.map .int)) (.lst (b.map .int)) = some (decide (a = b)) := by
  show (if depL (a.map .int) + 1 ≤ 8 ∧ depL (b.map .int) + 1 ≤ 8 then some (eqL (a.map .int) (b.map .int)) else none) = _
  rw [depL_int, depL_int, if_pos (by decide), eqL_int]
noncomputable def lexF (scope pairs : List V) (many : Nat) (strict alike : Bool) : List (Nat × RV) :=
  [(33, .val (.int (-1))), (31, .val (.tup scope)), (32, .val (.str 4)), (37, .val (.tup pairs)), (38, .val (.int (many : Int))), (36, .val (.bool strict)), (39, .val (.bool alike))]
noncomputable def incF (scope : List V) : List (Nat × RV) := [(33, .val (.int (-1))), (31, .val (.tup scope)), (32, .val (.str 5))]
noncomputable def checkLex (many : Nat) (strict : Bool) (p : List Int) : Bool := ltI (p.take many) (p.drop many) || (decide (p.take many = p.drop many) && !strict)
theorem check_lex_sp (c : Nat) {fi ma : List V} {st : St} {x : HObj} {r : Hp} {scope pairs : List V} {many : Nat} {strict alike : Bool} {p : List Int} (hp : p.length ≤ 100) :
    callN prog (c + 1) 27 [.ref 7, .val (ptV p)] (hpOf fi ma (x :: .inst 1 (lexF scope pairs many strict alike) :: r) st) = some (.val (.bool (checkLex many strict p)), hpOf fi ma (x :: .inst 1 (lexF scope pairs many strict alike) :: r) st) := by
  have m1 : slcV (.tup (p.map .int)) none (some (many : Int)) = some (.tup ((p.take many).map .int)) := by rw [sl_to, ← List.map_take]
  have m2 : slcV (.tup (p.map .int)) (some (many : Int)) none = some (.tup ((p.drop many).map .int)) := by rw [sl_from, ← List.map_drop]
  have l1 := b_tuple (v := .tup ((p.take many).map .int)) rfl (by simp; lia)
  have l2 := b_tuple (v := .tup ((p.drop many).map .int)) rfl (by simp; lia)
  have hl := ltT (p.take many) (p.drop many)
  have he := eqT (p.take many) (p.drop many)
  refine run_fnT (fd := f_LexOrder_check) rfl rfl rfl ?_
  unfold checkLex
  induction z1 : ltI (p.take many) (p.drop many) with
  | true =>
    rw [z1] at hl
    exact run_V m1 (run_V l1 (run_V m2 (run_V l2 (run_V hl (run_d rfl)))))
  | false =>
    rw [z1] at hl
    induction z2 : decide (p.take many = p.drop many) with
    | false =>
      rw [z2] at he
      exact run_V m1 (run_V l1 (run_V m2 (run_V l2 (run_V hl (run_V he (run_d rfl))))))
    | true =>
      rw [z2] at he
      exact run_V m1 (run_V l1 (run_V m2 (run_V l2 (run_V hl (run_V he (run_d rfl))))))
theorem check_inc_sp (c : Nat) {fi ma : List V} {st : St} {x : HObj} {r : Hp} {scope : List V} {p : List Int} (hp : p.length < 64) :
    callN prog (c + 1) 31 [.ref 7, .val (ptV p)] (hpOf fi ma (x :: .inst 2 (incF scope) :: r) st) = some (.val (.bool (decide (p = sortI p))), hpOf fi ma (x :: .inst 2 (incF scope) :: r) st) := by
  have l1 := b_list (v := ptV p) rfl (by simp; lia)
  have l2 : bltV .sorted [ptV p] = some (.lst ((sortI p).map .int)) := by
    show ((intsOf (p.map .int)).bind fun is => if is.length < 64 then some (V.lst ((sortI is).map .int)) else none) = _
    rw [intsOf_map]
    exact if_pos hp
  have he := eqLs p (sortI p)
  refine run_fnT (fd := f_Increasing_check) rfl rfl rfl ?_
  exact run_V l1 (run_V l2 (run_V he (run_d rfl)))
theorem lots_sp (c : Nat) {fi ma : List V} {rest : Hp} {st : St} (h : st.ms.length ≤ 100) (ok : ∀ m ∈ st.ms, m < 16) :
    callN prog (c + 2) 39 [.ref 0] (hpOf fi ma rest st) = some (.val (.lst (st.ms.map lotV)), hpOf fi ma rest st) := by
  have hs := amS (size_sp (fi := fi) (ma := ma) (rest := rest) (st := st) c)
  have hb := b_rng0 (n := st.ms.length) (by lia)
  have he : (List.range st.ms.length).map (fun x => lotV (st.ms.getD x 0)) = st.ms.map lotV := by
    apply List.ext_getElem
    · simp
    · intro i h1 h2
      simp at h1
      simp [List.getElem?_eq_getElem h1]
  have hc : ∀ d, compTop (evD prog (callN prog (c + 1)) (d + 10)) (.call 37 [(.meth (.loc 63) 65 [(.loc 10)])]) (.name 10) [] [] [(63, .ref 0)] (rngItems 0 (st.ms.length : Int) 1) (hpOf fi ma rest st)
      = some (st.ms.map lotV, hpOf fi ma rest st) := fun d => by
    rw [rng0, ← he]
    refine forItems_map fun x hx => turn_of rfl ?_
    have hx' := List.mem_range.mp hx
    have h1 := amS (dom_sp (fi := fi) (ma := ma) (rest := rest) c hx')
    have h2 := values_sp c (m := st.ms.getD x 0) (by rw [List.getD_eq_getElem?_getD, List.getElem?_eq_getElem hx']; exact ok _ (List.getElem_mem hx'))
    exact run_K rfl (run_K h1 (run_K h2 (run_done rfl)))
  have hl := gd_t (show (st.ms.map lotV).length ≤ 4096 by simp; lia)
  refine run_fnT (fd := f_law_lots) rfl rfl rfl ?_
  exact run_V rfl (run_V hs (run_V hb (run_V (hc _) (run_V hl (run_d rfl)))))
end Mine.Internal.P
namespace Mine.Internal.P
noncomputable def pairV (p : Nat × Nat) : V := .tup [.int (p.1 : Int), .int (p.2 : Int)]
section
variable {fl fl' : Bool} {cl cl' : V} {d d' f f' t t' m m' : List V} {n n' : Nat} {x y o o' : HObj} {e : Hp}
noncomputable def Plain (o : HObj) : Prop := ∀ n, objUnder n o = true
theorem drop9 {v : V} (hx : ∀ o ∈ x :: y :: e, Plain o) : dropTo (SH fl cl d f t m n (x :: y :: e)).length (.val v, SH fl' cl' d' f' t' m' n' (x :: y :: (e ++ [o]))) = (.val v, SH fl' cl' d' f' t' m' n' (x :: y :: e)) := by
  have ht : (SH fl' cl' d' f' t' m' n' (x :: y :: (e ++ [o]))).take (SH fl cl d f t m n (x :: y :: e)).length = SH fl' cl' d' f' t' m' n' (x :: y :: e) := by
    simp [SH]
  unfold dropTo
  rw [ht, if_pos]
  rw [Bool.and_eq_true]
  refine ⟨rfl, List.all_eq_true.mpr fun o' ho' => ?_⟩
  simp only [SH, List.mem_cons] at ho'
  rcases ho' with rfl | rfl | rfl | rfl | rfl | rfl | ho'
  · simp [objUnder, sfs, refsUnder, SH]
  · rfl
  · rfl
  · rfl
  · rfl
  · rfl
  · exact hx o' (by simpa using ho') _
end
noncomputable def brokenL (ms : List Nat) : List (Nat × Nat) → List Lit → Option (Option (List Lit)) × List Lit
  | [], acc => (none, acc)
  | (x, y) :: r, acc =>
    if loM (ms.getD x 0) < hiM (ms.getD y 0) then (some none, acc)
    else if loM (ms.getD x 0) > hiM (ms.getD y 0) then (some (some (acc ++ [⟨x, 1, loM (ms.getD x 0)⟩, ⟨y, 0, hiM (ms.getD y 0)⟩])), acc ++ [⟨x, 1, loM (ms.getD x 0)⟩, ⟨y, 0, hiM (ms.getD y 0)⟩])
    else brokenL ms r (acc ++ [⟨x, 1, loM (ms.getD x 0)⟩, ⟨y, 0, hiM (ms.getD y 0)⟩])
theorem brokenL_c {ms : List Nat} {x y : Nat} {r : List (Nat × Nat)} {acc : List Lit} : brokenL ms ((x, y) :: r) acc = if loM (ms.getD x 0) < hiM (ms.getD y 0) then (some none, acc) else if loM (ms.getD x 0) > hiM (ms.getD y 0) then (some (some (acc ++ [⟨x, 1, loM (ms.getD x 0)⟩, ⟨y, 0, hiM (ms.getD y 0)⟩])), acc ++ [⟨x, 1, loM (ms.getD x 0)⟩, ⟨y, 0, hiM (ms.getD y 0)⟩]) else brokenL ms r (acc ++ [⟨x, 1, loM (ms.getD x 0)⟩, ⟨y, 0, hiM (ms.getD y 0)⟩]) := rfl
noncomputable def brokenS (alike : Bool) (ms : List Nat) (r : List (Nat × Nat)) : Option (List Lit) := match brokenL ms r [] with
  | (some R, _) => R
  | (none, acc) => if alike then none else some acc
noncomputable def optV : Option (List Lit) → V
  | none => .none
  | some R => .lst (R.map Lit.v)
theorem litv (x sg : Nat) (k : Int) : V.tup [.int (x : Int), .str sg, .int k] = (Lit.mk x sg k).v := rfl
section
variable {fi ma : List V} {st : St} {x y o a b : HObj} {e : Hp}
theorem H9 : (hpOf fi ma (x :: y :: (e ++ [o])) st)[e.length + 8]? = some o := by simp [hpOf, SH]
theorem H9s : (hpOf fi ma (x :: y :: (e ++ [o])) st).set (e.length + 8) a = hpOf fi ma (x :: y :: (e ++ [a])) st := by simp [hpOf, SH]
theorem H9g : ((hpOf fi ma (x :: y :: (e ++ [o])) st).set (e.length + 8) a)[e.length + 8]? = some a := by rw [H9s, H9]
theorem H9ss : ((hpOf fi ma (x :: y :: (e ++ [o])) st).set (e.length + 8) a).set (e.length + 8) b = hpOf fi ma (x :: y :: (e ++ [b])) st := by rw [H9s, H9s]
end
noncomputable def locB (o : Option (V × V × V × V)) (k : V) (e : Nat) : Loc := (13, .ref 7) :: (40, .ref 0) :: (1, .val k) :: (6, .ref e) :: @Option.casesOn (V × V × V × V) (fun _ => Loc) o [] fun q => [(10, .val q.1), (44, .val q.2.1), (2, .val q.2.2.1), (3, .val q.2.2.2)]
section
variable {fi ma : List V} {st : St} {x6 : HObj} {ext : Hp} {scope pairs : List V} {many : Nat} {strict alike : Bool}
theorem broken_go (c d : Nat) {k : V} (ok : Ok st) : ∀ (r : List (Nat × Nat)) (acc : List Lit) (o : Option (V × V × V × V)), (∀ p ∈ r, p.1 < st.ms.length ∧ p.2 < st.ms.length) → acc.length + 2 * r.length ≤ 2000 → ∃ o1 o',
    forGo (forB (evD prog (callN prog (c + 2)) (d + 12)) (.tup [(.name 10), (.name 44)]) [(.asgT [2, 3] [(.meth (.loc 40) 2 [(.loc 10)]), (.meth (.loc 40) 3 [(.loc 44)])]), (.iff (.cmp .lt (.loc 2) (.loc 3)) [(.ret (some .cnone))] []), (.ex (.ext (.loc 6) (.lst false [(.tup [(.loc 10), (.cstr 1), (.loc 2)]), (.tup [(.loc 44), (.cstr 0), (.loc 3)])]))), (.iff (.cmp .gt (.loc 2) (.loc 3)) [(.ret (some (.frz (.loc 6))))] [])])
      (r.map pairV) (locB o k (ext.length + 8)) (hpOf fi ma (x6 :: (HObj.inst 1 (lexF scope pairs many strict alike)) :: (ext ++ [.mlst (acc.map Lit.v)])) st) =
      some ((match (brokenL st.ms r acc).1 with | some R => .ret (.val (optV R)) | none => .next), locB o1 k (ext.length + 8), hpOf fi ma (x6 :: (HObj.inst 1 (lexF scope pairs many strict alike)) :: (ext ++ [o'])) st) ∧
      ((brokenL st.ms r acc).1 = none → o' = .mlst ((brokenL st.ms r acc).2.map Lit.v))
  | [] => @fun acc o _ _ => ⟨o, _, rfl, fun _ => rfl⟩
  | (x, y) :: r => @fun acc o hr hl => by
    obtain ⟨hx, hy⟩ := hr (x, y) (.head _)
    have L1 := amS (low_sp (fi := fi) (ma := ma) (rest := x6 :: (HObj.inst 1 (lexF scope pairs many strict alike)) :: (ext ++ [.mlst (acc.map Lit.v)])) c ok hx)
    have L2 := amS (high_sp (fi := fi) (ma := ma) (rest := x6 :: (HObj.inst 1 (lexF scope pairs many strict alike)) :: (ext ++ [.mlst (acc.map Lit.v)])) c ok hy)
    rw [brokenL_c]
    generalize loM (st.ms.getD x 0) = lo at *
    generalize hiM (st.ms.getD y 0) = hi at *
    have a1 := ltI' lo hi
    have a2 := gtI lo hi
    by_cases c1 : lo < hi
    · rw [if_pos c1]
      rw [decide_eq_true c1] at a1
      refine ⟨some (.int x, .int y, .int lo, .int hi), .mlst (acc.map Lit.v), ?_, fun h => nS h.symm⟩
      rcases o with _ | _ <;> refine forGo_ret (run_forB rfl ?_) <;> exact run_K rfl (run_K L1 (run_K rfl (run_K L2 (run_K a1 (run_done rfl)))))
    · rw [if_neg c1]
      rw [decide_eq_false c1] at a1
      have hlen := gd_t (show (acc.map Lit.v).length + [Lit.v ⟨x, 1, lo⟩, Lit.v ⟨y, 0, hi⟩].length ≤ 4096 by simp at hl ⊢; lia)
      have em : (acc ++ [(⟨x, 1, lo⟩ : Lit), ⟨y, 0, hi⟩]).map Lit.v = acc.map Lit.v ++ [Lit.v ⟨x, 1, lo⟩, Lit.v ⟨y, 0, hi⟩] := List.map_append ..
      have q1 := congrArg some (H9 (fi := fi) (ma := ma) (st := st) (x := x6) (y := (HObj.inst 1 (lexF scope pairs many strict alike))) (e := ext) (o := .mlst (acc.map Lit.v)))
      by_cases c2 : lo > hi
      · rw [if_pos c2]
        rw [decide_eq_true c2] at a2
        have q2 := congrArg some (H9g (fi := fi) (ma := ma) (st := st) (x := x6) (y := (HObj.inst 1 (lexF scope pairs many strict alike))) (e := ext) (o := .mlst (acc.map Lit.v)) (a := .mlst (acc.map Lit.v ++ [Lit.v ⟨x, 1, lo⟩, Lit.v ⟨y, 0, hi⟩])))
        refine ⟨some (.int x, .int y, .int lo, .int hi), .flst (acc.map Lit.v ++ [Lit.v ⟨x, 1, lo⟩, Lit.v ⟨y, 0, hi⟩]), ?_, fun h => nS h.symm⟩
        show forGo _ _ _ _ = some (.ret (.val (.lst ((acc ++ [(⟨x, 1, lo⟩ : Lit), ⟨y, 0, hi⟩]).map Lit.v))), _, _)
        rw [em, ← H9ss (o := .mlst (acc.map Lit.v)) (a := .mlst (acc.map Lit.v ++ [Lit.v ⟨x, 1, lo⟩, Lit.v ⟨y, 0, hi⟩])) (b := .flst (acc.map Lit.v ++ [Lit.v ⟨x, 1, lo⟩, Lit.v ⟨y, 0, hi⟩]))]
        rcases o with _ | _ <;> refine forGo_ret (run_forB rfl ?_) <;> exact run_K rfl (run_K L1 (run_K rfl (run_K L2 (run_K a1 (run_K q1 (run_K q1 (run_K hlen (run_K a2 (run_K q2 (run_done rfl))))))))))
      · rw [if_neg c2]
        rw [decide_eq_false c2] at a2
        obtain ⟨o1, o', q, kk⟩ := broken_go c d (k := k) ok r (acc ++ [⟨x, 1, lo⟩, ⟨y, 0, hi⟩]) (some (.int x, .int y, .int lo, .int hi)) (fun p m => hr p (.tail _ m)) (by simp at hl ⊢; lia)
        refine ⟨o1, o', ?_, kk⟩
        rw [em, ← H9s (o := .mlst (acc.map Lit.v)) (a := .mlst (acc.map Lit.v ++ [Lit.v ⟨x, 1, lo⟩, Lit.v ⟨y, 0, hi⟩]))] at q
        rcases o with _ | _ <;> refine (forGo_next (run_forB rfl ?_)).trans q <;> exact run_K rfl (run_K L1 (run_K rfl (run_K L2 (run_K a1 (run_K q1 (run_K q1 (run_K hlen (run_K a2 (run_done rfl)))))))))
noncomputable def PairsOk (st : St) (r : List (Nat × Nat)) : Prop := ∀ p ∈ r, p.1 < st.ms.length ∧ p.2 < st.ms.length
theorem broken_sp (c : Nat) (ok : Ok st) {ps : List (Nat × Nat)} {k : Nat} (hr : PairsOk st (ps.drop k)) (hps : ps.length ≤ 100) (hp : pairs = ps.map pairV) :
    ∃ o', callN prog (c + 3) 26 [.ref 7, .ref 0, .val (.int (k : Int))] (hpOf fi ma (x6 :: (HObj.inst 1 (lexF scope pairs many strict alike)) :: ext) st) = some (.val (optV (brokenS alike st.ms (ps.drop k))), hpOf fi ma (x6 :: (HObj.inst 1 (lexF scope pairs many strict alike)) :: (ext ++ [o'])) st) := by
  subst hp
  obtain ⟨o1, o', q, kk⟩ := broken_go (fi := fi) (ma := ma) (x6 := x6) (ext := ext) (scope := scope) (pairs := ps.map pairV) (many := many) (strict := strict) (alike := alike) c 11 (k := .int (k : Int)) ok (ps.drop k) [] none hr (by simp; lia)
  have hd : slcV (.tup (ps.map pairV)) (some (k : Int)) none = some (.tup ((ps.drop k).map pairV)) := by rw [sl_from, ← List.map_drop]
  unfold brokenS
  induction hb : brokenL st.ms (ps.drop k) [] with
  | mk out acc =>
    rw [hb] at q kk
    induction out with
    | some R =>
      refine ⟨o', run_fnT (fd := f_LexOrder_broken_from) rfl rfl rfl ?_⟩
      exact run_V hd (run_V q (run_d rfl))
    | none =>
      obtain rfl := kk rfl
      induction alike with
      | true =>
        refine ⟨.mlst (acc.map Lit.v), run_fnT (fd := f_LexOrder_broken_from) rfl rfl rfl ?_⟩
        rcases o1 with _ | _ <;> exact run_V hd (run_V q (run_d rfl))
      | false =>
        refine ⟨.flst (acc.map Lit.v), run_fnT (fd := f_LexOrder_broken_from) rfl rfl rfl ?_⟩
        have q1 := congrArg some (H9 (fi := fi) (ma := ma) (st := st) (x := x6) (y := HObj.inst 1 (lexF scope (ps.map pairV) many strict false)) (e := ext) (o := .mlst (acc.map Lit.v)))
        rw [← H9s (o := .mlst (acc.map Lit.v)) (a := .flst (acc.map Lit.v))]
        rcases o1 with _ | _ <;> exact run_V hd (run_V q (run_V q1 (run_d rfl)))
end
end Mine.Internal.P
namespace Mine.Internal.P
noncomputable def cardM (m : Nat) : Nat := (valsM m).length
noncomputable def sumC : List Nat → Nat
  | [] => 0
  | m :: r => cardM m + sumC r
structure Okk (st : St) : Prop where
  m : ∀ m ∈ st.ms, m < 16 ∧ m ≠ 0
  n : st.n + sumC st.ms ≤ 30
  t : st.tr.length + sumC st.ms ≤ 30
theorem Okk.ok {st : St} (o : Okk st) : Ok st := ⟨o.m, by have := o.n; lia, by have := o.t; lia⟩
noncomputable def card_chk : Bool := (List.range 16).all fun m => (List.range 4).all fun sg => (List.range 10).all fun j => decide (strikeM m sg (kOf j) = m) || decide (cardM (strikeM m sg (kOf j)) < cardM m)
theorem card_ok : card_chk = true := by kernel_rfl
theorem card_lt {m sg : Nat} {k : Int} (hm : m < 16) (hs : sg < 4) (hk : -3 ≤ k ∧ k ≤ 6) (h : strikeM m sg k ≠ m) : cardM (strikeM m sg k) < cardM m := by
  obtain ⟨j, hj, rfl⟩ := kOf_of hk
  have := List.all_eq_true.mp (List.all_eq_true.mp (List.all_eq_true.mp card_ok m (List.mem_range.mpr hm)) sg (List.mem_range.mpr hs)) j (List.mem_range.mpr hj)
  simp only [Bool.or_eq_true, decide_eq_true_eq] at this
  exact this.resolve_left h
noncomputable def end_chk : Bool := (List.range 16).all fun m => (m == 0) || (decide (0 ≤ loM m) && decide (loM m ≤ hiM m) && decide (hiM m ≤ 3))
theorem end_ok : end_chk = true := by kernel_rfl
theorem ends_in {m : Nat} (hm : m < 16) (h0 : m ≠ 0) : 0 ≤ loM m ∧ loM m ≤ hiM m ∧ hiM m ≤ 3 := by
  have := List.all_eq_true.mp end_ok m (List.mem_range.mpr hm)
  simp only [Bool.or_eq_true, beq_iff_eq, Bool.and_eq_true, decide_eq_true_eq] at this
  have := this.resolve_left h0
  exact ⟨this.1.1, this.1.2, this.2⟩
theorem sumC_set : ∀ {ms : List Nat} {x m' : Nat}, x < ms.length → sumC (ms.set x m') + cardM (ms.getD x 0) = sumC ms + cardM m'
  | [], _, _ => @fun h => by simp at h
  | m :: r, 0, m' => @fun _ => by simp [sumC]; lia
  | m :: r, x + 1, m' => @fun h => by
    have := sumC_set (ms := r) (x := x) (m' := m') (by simpa using h)
    simp [sumC] at this ⊢; lia
theorem enter_cases {st : St} {l : Lit} {rs : Option (List Lit)} {M : Bool × St → Prop} (k0 : strikeM (st.ms.getD l.x 0) l.sg l.k = 0 → M (false, { st with failed := true, clash := rs.getD [] ++ [negL l] })) (k1 : strikeM (st.ms.getD l.x 0) l.sg l.k ≠ 0 → strikeM (st.ms.getD l.x 0) l.sg l.k = st.ms.getD l.x 0 → M (true, st))
    (k2 : strikeM (st.ms.getD l.x 0) l.sg l.k ≠ 0 → strikeM (st.ms.getD l.x 0) l.sg l.k ≠ st.ms.getD l.x 0 → M (true, { st with ms := st.ms.set l.x (strikeM (st.ms.getD l.x 0) l.sg l.k), tr := st.tr ++ [⟨l.x, st.ms.getD l.x 0, l, rs⟩], n := st.n + 1 })) : M (enterS st l rs) := by
  by_cases h0 : strikeM (st.ms.getD l.x 0) l.sg l.k = 0
  · rw [enterS_0 h0]; exact k0 h0
  · by_cases h1 : strikeM (st.ms.getD l.x 0) l.sg l.k = st.ms.getD l.x 0
    · rw [enterS_1 h0 h1]; exact k1 h0 h1
    · rw [enterS_2 h0 h1]; exact k2 h0 h1
theorem enter_ok {st : St} {l : Lit} {rs : Option (List Lit)} (o : Okk st) (hl : l.ok st.ms.length) : (enterS st l rs).1 = true → Okk (enterS st l rs).2 := by
  obtain ⟨hx, hs, hk⟩ := hl
  refine enter_cases (M := fun r => r.1 = true → Okk r.2) (fun _ h => nB h) (fun _ _ _ => o) fun h0 h1 _ => ?_
  have hc := card_lt (o.ok.at hx).1 hs hk h1
  have hsum := sumC_set (ms := st.ms) (m' := strikeM (st.ms.getD l.x 0) l.sg l.k) hx
  refine ⟨fun m mm => ?_, ?_, ?_⟩
  · rcases List.mem_or_eq_of_mem_set mm with mm | rfl
    · exact o.m m mm
    · exact ⟨strikeM_lt, h0⟩
  · have := o.n; show st.n + 1 + sumC (st.ms.set l.x (strikeM (st.ms.getD l.x 0) l.sg l.k)) ≤ 30; lia
  · have := o.t; show (st.tr ++ [_]).length + sumC (st.ms.set l.x (strikeM (st.ms.getD l.x 0) l.sg l.k)) ≤ 30; rw [List.length_append]; show st.tr.length + 1 + _ ≤ _; lia
theorem enter_len {st : St} {l : Lit} {rs : Option (List Lit)} : (enterS st l rs).2.ms.length = st.ms.length :=
  enter_cases (M := fun r => r.2.ms.length = st.ms.length) (fun _ => rfl) (fun _ _ => rfl) fun _ _ => List.length_set
noncomputable def goL (alike : Bool) : List (Nat × Nat) → List Lit → St → Option Bool × List Lit × St
  | [], ahead, st => (none, ahead, st)
  | (x, y) :: r, ahead, st =>
    match enterS st ⟨x, 0, hiM (st.ms.getD y 0) - (if (brokenS alike st.ms r).isSome then 1 else 0)⟩ (some (ahead ++ [⟨y, 0, hiM (st.ms.getD y 0)⟩] ++ (brokenS alike st.ms r).getD [])) with
    | (false, st1) => (some false, ahead, st1)
    | (true, st1) => match enterS st1 ⟨y, 1, loM (st.ms.getD x 0) + (if (brokenS alike st.ms r).isSome then 1 else 0)⟩ (some (ahead ++ [⟨x, 1, loM (st.ms.getD x 0)⟩] ++ (brokenS alike st.ms r).getD [])) with
      | (false, st2) => (some false, ahead, st2)
      | (true, st2) => if loM (st.ms.getD x 0) < hiM (st.ms.getD y 0) then (some true, ahead, st2)
        else goL alike r (ahead ++ [⟨x, 1, loM (st.ms.getD x 0)⟩, ⟨y, 0, hiM (st.ms.getD y 0)⟩]) st2
theorem broken_len {alike : Bool} {ms : List Nat} : ∀ {r : List (Nat × Nat)} {acc : List Lit}, (brokenL ms r acc).2.length ≤ acc.length + 2 * r.length ∧ ∀ R, (brokenL ms r acc).1 = some (some R) → R.length ≤ acc.length + 2 * r.length
  | [], acc => ⟨Nat.le_refl _, fun R h => nS h⟩
  | (x, y) :: r, acc => by
    simp only [brokenL_c]
    split
    · exact ⟨by simp, fun R h => by cases h⟩
    · split
      · exact ⟨by simp; lia, fun R h => by cases h; simp; lia⟩
      · have := broken_len (alike := alike) (ms := ms) (r := r) (acc := acc ++ [⟨x, 1, loM (ms.getD x 0)⟩, ⟨y, 0, hiM (ms.getD y 0)⟩])
        simp at this ⊢
        exact ⟨by lia, fun R h => by have := this.2 R h; lia⟩
theorem brokenS_len {alike : Bool} {ms : List Nat} {r : List (Nat × Nat)} : ((brokenS alike ms r).getD []).length ≤ 2 * r.length := by
  have h := broken_len (alike := alike) (ms := ms) (r := r) (acc := [])
  unfold brokenS
  induction hb : brokenL ms r [] with
  | mk out acc =>
    rw [hb] at h
    induction out with
    | some R =>
      induction R with
      | none => simp
      | some R => have := h.2 R rfl; simpa using this
    | none =>
      have := h.1
      rcases alike with _ | _ <;> simp at this ⊢; omega
theorem addM {a b : List Lit} (h : a.length + b.length ≤ 4096) : binV .add (.lst (a.map Lit.v)) (.lst (b.map Lit.v)) = some (.lst ((a ++ b).map Lit.v)) := by
  rw [addL (by rw [List.length_map, List.length_map]; exact h), List.map_append]
theorem add1 {k : Nat} : binV .add (.int (k : Int)) (.int ((1 : Nat) : Int)) = some (.int ((k + 1 : Nat) : Int)) := rfl
theorem getLo {st : St} {o : Okk st} {x : Nat} (h : x < st.ms.length) : 0 ≤ loM (st.ms.getD x 0) ∧ loM (st.ms.getD x 0) ≤ hiM (st.ms.getD x 0) ∧ hiM (st.ms.getD x 0) ≤ 3 := ends_in (o.ok.at h).1 (o.ok.at h).2
structure GT where
  a1 : V
  a10 : V
  a44 : V
  a45 : V
  a47 : V
  a48 : V
  a2 : V
  a3 : V
noncomputable def locG (o : Option GT) (ahead : List Lit) : Loc := (13, .ref 7) :: (40, .ref 0) :: (43, .val (.lst (ahead.map Lit.v))) :: @Option.casesOn GT (fun _ => Loc) o [] fun q => [(1, .val q.a1), (10, .val q.a10), (44, .val q.a44), (45, .val q.a45), (47, .val q.a47), (48, .val q.a48), (2, .val q.a2), (3, .val q.a3)]
noncomputable def gS1 : CS := (.asg (.name 45) (.meth (.loc 13) 46 [(.loc 40), (.bin .add (.loc 1) (.cint 1))]))
noncomputable def gS2 : CS := (.asg (.tup [(.name 47), (.name 48)]) (.ite (.cmp .isN (.loc 45) .cnone) (.tup [(.cint 0), (.lst false [])]) (.tup [(.cint 1), (.loc 45)])))
noncomputable def gS3 : CS := (.asgT [2, 3] [(.meth (.loc 40) 2 [(.loc 10)]), (.meth (.loc 40) 3 [(.loc 44)])])
noncomputable def gS4 : CS := (.iff (.not (.meth (.loc 40) 49 [(.tup [(.loc 10), (.cstr 0), (.bin .sub (.loc 3) (.loc 47))]), (.bin .add (.bin .add (.loc 43) (.lst false [(.tup [(.loc 44), (.cstr 0), (.loc 3)])])) (.loc 48))])) [(.ret (some (.cbool false)))] [])
noncomputable def gS5 : CS := (.iff (.not (.meth (.loc 40) 49 [(.tup [(.loc 44), (.cstr 1), (.bin .add (.loc 2) (.loc 47))]), (.bin .add (.bin .add (.loc 43) (.lst false [(.tup [(.loc 10), (.cstr 1), (.loc 2)])])) (.loc 48))])) [(.ret (some (.cbool false)))] [])
noncomputable def gS6 : CS := (.iff (.cmp .lt (.loc 2) (.loc 3)) [(.ret (some (.cbool true)))] [])
noncomputable def gS7 : CS := (.asg (.name 43) (.bin .add (.loc 43) (.lst false [(.tup [(.loc 10), (.cstr 1), (.loc 2)]), (.tup [(.loc 44), (.cstr 0), (.loc 3)])])))
theorem blk_next {S : Loc → Hp → CS → Option (Out × Loc × Hp)} {c : CS} {r : List CS} {loc l : Loc} {hp h : Hp} (e : S loc hp c = some (.next, l, h)) : block S (c :: r) loc hp = block S r l h := by
  show obs _ _ = _
  rw [e, obs_eq]
  rfl
theorem blk_run {P : Prog} {C : CallT} {d : Nat} {c : CS} {r : List CS} {loc l : Loc} {hp h : Hp} {X} (e : (evD P C d).S loc hp c = some (.next, l, h)) (g : (tBlk (tD P C d).S r l h .done).run = some X) : (tBlk (tD P C d).S (c :: r) loc hp .done).run = some X := by
  rw [tBlk_ok (tD_ok d).2.2, blk_next e, run_blk g]
  rfl
section
variable {fi ma : List V} {x6 : HObj} {ext : Hp} {scope pairs : List V} {many : Nat} {strict alike : Bool}
set_option maxHeartbeats 8000000 in
theorem go_go (c d : Nat) (hx : ∀ o ∈ x6 :: (HObj.inst 1 (lexF scope pairs many strict alike)) :: ext, Plain o) {ps : List (Nat × Nat)} (hps : ps.length ≤ 100) (hp : pairs = ps.map pairV) : ∀ (r : List (Nat × Nat)) (k : Nat) (ahead : List Lit) (st : St) (o : Option GT), Okk st → ps.drop k = r → PairsOk st r → ahead.length + 2 * r.length ≤ 1000 → ∃ o1 a1,
    forGo (forB (evD prog (callN prog (c + 5)) (d + 15)) (.tup [(.name 1), (.tup [(.name 10), (.name 44)])]) [gS1, gS2, gS3, gS4, gS5, gS6, gS7])
      (enumFrom k (r.map pairV)) (locG o ahead) (hpOf fi ma (x6 :: (HObj.inst 1 (lexF scope pairs many strict alike)) :: ext) st) =
      some ((match (goL alike r ahead st).1 with | some b => .ret (.val (.bool b)) | none => .next), locG o1 a1, hpOf fi ma (x6 :: (HObj.inst 1 (lexF scope pairs many strict alike)) :: ext) (goL alike r ahead st).2.2) ∧
      ((goL alike r ahead st).1 = none → a1 = (goL alike r ahead st).2.1)
  | [] => @fun k ahead st o _ _ _ _ => ⟨o, ahead, rfl, fun _ => rfl⟩
  | (x, y) :: r => @fun k ahead st o ok hk hr hl => by
    obtain ⟨hx1, hy1⟩ := hr (x, y) (.head _)
    have hk1 : ps.drop (k + 1) = r := by
      have : ps.drop (k + 1) = (ps.drop k).drop 1 := by rw [List.drop_drop]
      rw [this, hk]; rfl
    obtain ⟨o', B⟩ := broken_sp (fi := fi) (ma := ma) (x6 := x6) (ext := ext) (scope := scope) (pairs := pairs) (many := many) (strict := strict) (alike := alike) (c + 2) ok.ok (ps := ps) (k := k + 1) (by rw [hk1]; exact fun p m => hr p (.tail _ m)) hps hp
    rw [hk1] at B
    have B := am B (drop9 hx)
    have L1 := amS (low_sp (fi := fi) (ma := ma) (rest := x6 :: (HObj.inst 1 (lexF scope pairs many strict alike)) :: ext) (c + 3) ok.ok hx1)
    have L2 := amS (high_sp (fi := fi) (ma := ma) (rest := x6 :: (HObj.inst 1 (lexF scope pairs many strict alike)) :: ext) (c + 3) ok.ok hy1)
    have bx := getLo (o := ok) hx1
    have bY := getLo (o := ok) hy1
    have hbl := brokenS_len (alike := alike) (ms := st.ms) (r := r)
    unfold goL
    generalize brokenS alike st.ms r = br at *
    generalize loM (st.ms.getD x 0) = lo at *
    generalize hiM (st.ms.getD y 0) = hi at *
    obtain ⟨g, M, hg, hM, hg0, hg1, hbr⟩ : ∃ (g : Int) (M : List Lit), (if br.isSome = true then (1 : Int) else 0) = g ∧ br.getD [] = M ∧ 0 ≤ g ∧ g ≤ 1 ∧ ((br = none ∧ g = ((0 : Nat) : Int) ∧ M = []) ∨ (br = some M ∧ g = ((1 : Nat) : Int))) := by
      induction br with
      | none => exact ⟨0, [], rfl, rfl, by decide, by decide, .inl ⟨rfl, rfl, rfl⟩⟩
      | some R => exact ⟨1, R, rfl, rfl, by decide, by decide, .inr ⟨rfl, rfl⟩⟩
    rw [hg, hM]
    rw [hM] at hbl
    have hl' : ahead.length + 2 * r.length + 2 ≤ 1000 := by simp at hl; omega
    obtain ⟨LG, hLG⟩ : ∃ LG, LG = locG (some ⟨.int k, .int x, .int y, optV br, .int g, .lst (M.map Lit.v), .int lo, .int hi⟩) := ⟨_, rfl⟩
    have A : ∀ rest X, (tBlk (tD prog (callN prog (c + 5)) (d + 15)).S rest (LG ahead) (hpOf fi ma (x6 :: (HObj.inst 1 (lexF scope pairs many strict alike)) :: ext) st) .done).run = some X →
        forB (evD prog (callN prog (c + 5)) (d + 15)) (.tup [(.name 1), (.tup [(.name 10), (.name 44)])]) (gS1 :: gS2 :: gS3 :: rest) (.tup [.int (k : Int), pairV (x, y)]) (locG o ahead) (hpOf fi ma (x6 :: (HObj.inst 1 (lexF scope pairs many strict alike)) :: ext) st) = some X := fun rest X h => by
      subst hLG
      clear hbl hg hM hg0 hg1
      rcases hbr with ⟨rfl, rfl, rfl⟩ | ⟨rfl, rfl⟩ <;> rcases o with _ | _ <;> refine run_forB rfl ?_ <;> exact run_K rfl (run_K add1 (run_K B (run_K rfl (run_K rfl (run_K L1 (run_K rfl (run_K L2 (h))))))))
    clear B L1 L2 hbr
    have lv1 : Lit.ok ⟨x, 0, hi - g⟩ st.ms.length := ⟨hx1, by show 0 < 4; decide, by show -3 ≤ hi - g; lia, by show hi - g ≤ 6; lia⟩
    have S1 := amS (strike_sp (fi := fi) (ma := ma) (rest := x6 :: (HObj.inst 1 (lexF scope pairs many strict alike)) :: ext) c (R := ahead ++ [⟨y, 0, hi⟩] ++ M) ok.ok lv1 (by simp; lia))
    have w1 := addM (a := ahead) (b := [⟨y, 0, hi⟩]) (by simp; lia)
    have w2 := addM (a := ahead ++ [⟨y, 0, hi⟩]) (b := M) (by simp; lia)
    have E1 := enter_ok (rs := some (ahead ++ [⟨y, 0, hi⟩] ++ M)) ok lv1
    have F1 := enter_len (st := st) (l := ⟨x, 0, hi - g⟩) (rs := some (ahead ++ [⟨y, 0, hi⟩] ++ M))
    generalize enterS st ⟨x, 0, hi - g⟩ (some (ahead ++ [⟨y, 0, hi⟩] ++ M)) = e1 at *
    obtain ⟨b1, st1⟩ := e1
    induction b1 with
    | false =>
      refine ⟨some ⟨.int k, .int x, .int y, optV br, .int g, .lst (M.map Lit.v), .int lo, .int hi⟩, ahead, (forGo_ret (v := .val (.bool false)) (loc' := locG (some ⟨.int k, .int x, .int y, optV br, .int g, .lst (M.map Lit.v), .int lo, .int hi⟩) ahead) (hp' := hpOf fi ma (x6 :: (HObj.inst 1 (lexF scope pairs many strict alike)) :: ext) st1) (A _ _ ?_)), fun h => nS h.symm⟩
      subst hLG
      exact run_K rfl (run_K subI (run_K w1 (run_K w2 (run_K S1 (run_done rfl)))))
    | true =>
      have o1 := E1 rfl
      have A : ∀ rest X, (tBlk (tD prog (callN prog (c + 5)) (d + 15)).S rest (LG ahead) (hpOf fi ma (x6 :: (HObj.inst 1 (lexF scope pairs many strict alike)) :: ext) st1) .done).run = some X →
          forB (evD prog (callN prog (c + 5)) (d + 15)) (.tup [(.name 1), (.tup [(.name 10), (.name 44)])]) (gS1 :: gS2 :: gS3 :: gS4 :: rest) (.tup [.int (k : Int), pairV (x, y)]) (locG o ahead) (hpOf fi ma (x6 :: (HObj.inst 1 (lexF scope pairs many strict alike)) :: ext) st) = some X := fun rest X h => A _ _ (blk_run (run_S (by
        subst hLG
        exact run_K rfl (run_K subI (run_K w1 (run_K w2 (run_K S1 (run_done rfl))))))) h)
      clear S1 w1 w2
      have lv2 : Lit.ok ⟨y, 1, lo + g⟩ st1.ms.length := ⟨F1.symm ▸ hy1, by show 1 < 4; decide, by show -3 ≤ lo + g; lia, by show lo + g ≤ 6; lia⟩
      have S2 := amS (strike_sp (fi := fi) (ma := ma) (rest := x6 :: (HObj.inst 1 (lexF scope pairs many strict alike)) :: ext) c (R := ahead ++ [⟨x, 1, lo⟩] ++ M) o1.ok lv2 (by simp; lia))
      have w3 := addM (a := ahead) (b := [⟨x, 1, lo⟩]) (by simp; lia)
      have w4 := addM (a := ahead ++ [⟨x, 1, lo⟩]) (b := M) (by simp; lia)
      have E2 := enter_ok (rs := some (ahead ++ [⟨x, 1, lo⟩] ++ M)) o1 lv2
      have F2 := enter_len (st := st1) (l := ⟨y, 1, lo + g⟩) (rs := some (ahead ++ [⟨x, 1, lo⟩] ++ M))
      dsimp only at F1 ⊢
      generalize enterS st1 ⟨y, 1, lo + g⟩ (some (ahead ++ [⟨x, 1, lo⟩] ++ M)) = e2 at *
      obtain ⟨b2, st2⟩ := e2
      cases b2 with
      | false =>
        refine ⟨some ⟨.int k, .int x, .int y, optV br, .int g, .lst (M.map Lit.v), .int lo, .int hi⟩, ahead, (forGo_ret (v := .val (.bool false)) (loc' := locG (some ⟨.int k, .int x, .int y, optV br, .int g, .lst (M.map Lit.v), .int lo, .int hi⟩) ahead) (hp' := hpOf fi ma (x6 :: (HObj.inst 1 (lexF scope pairs many strict alike)) :: ext) st2) (A _ _ ?_)), fun h => nS h.symm⟩
        subst hLG
        exact run_K rfl (run_K addI (run_K w3 (run_K w4 (run_K S2 (run_done rfl)))))
      | true =>
        have A : ∀ rest X, (tBlk (tD prog (callN prog (c + 5)) (d + 15)).S rest (LG ahead) (hpOf fi ma (x6 :: (HObj.inst 1 (lexF scope pairs many strict alike)) :: ext) st2) .done).run = some X →
            forB (evD prog (callN prog (c + 5)) (d + 15)) (.tup [(.name 1), (.tup [(.name 10), (.name 44)])]) (gS1 :: gS2 :: gS3 :: gS4 :: gS5 :: rest) (.tup [.int (k : Int), pairV (x, y)]) (locG o ahead) (hpOf fi ma (x6 :: (HObj.inst 1 (lexF scope pairs many strict alike)) :: ext) st) = some X := fun rest X h => A _ _ (blk_run (run_S (by
          subst hLG
          exact run_K rfl (run_K addI (run_K w3 (run_K w4 (run_K S2 (run_done rfl))))))) h)
        clear S2 w3 w4
        have a1 := ltI' lo hi
        dsimp only at F2 ⊢
        by_cases q1 : lo < hi
        · rw [decide_eq_true q1] at a1
          rw [if_pos q1]
          refine ⟨some ⟨.int k, .int x, .int y, optV br, .int g, .lst (M.map Lit.v), .int lo, .int hi⟩, ahead, (forGo_ret (v := .val (.bool true)) (loc' := locG (some ⟨.int k, .int x, .int y, optV br, .int g, .lst (M.map Lit.v), .int lo, .int hi⟩) ahead) (hp' := hpOf fi ma (x6 :: (HObj.inst 1 (lexF scope pairs many strict alike)) :: ext) st2) (A _ _ ?_)), fun h => nS h.symm⟩
          subst hLG
          exact run_K a1 (run_done rfl)
        · rw [decide_eq_false q1] at a1
          rw [if_neg q1]
          have w5 := addM (a := ahead) (b := [⟨x, 1, lo⟩, ⟨y, 0, hi⟩]) (by simp; lia)
          obtain ⟨o1', a1', q, f⟩ := go_go c d hx hps hp r (k + 1) (ahead ++ [⟨x, 1, lo⟩, ⟨y, 0, hi⟩]) st2 (some ⟨.int k, .int x, .int y, optV br, .int g, .lst (M.map Lit.v), .int lo, .int hi⟩) (E2 rfl) hk1 (fun p m => by simp only [F2, F1]; exact hr p (.tail _ m)) (by simp; lia)
          refine ⟨o1', a1', (forGo_next (A _ _ ?_)).trans q, f⟩
          subst hLG
          exact run_K a1 (run_K w5 (run_done rfl))
noncomputable def goS (alike : Bool) (ps : List (Nat × Nat)) (st : St) : Bool × St := match goL alike ps [] st with
  | (some b, _, st') => (b, st')
  | (none, ahead, st') => if alike then (true, st') else (false, { st' with failed := true, clash := ahead })
theorem goL_ahead {alike : Bool} : ∀ {r : List (Nat × Nat)} {ahead : List Lit} {st : St}, (goL alike r ahead st).2.1.length ≤ ahead.length + 2 * r.length
  | [], ahead, st => by simp [goL]
  | (x, y) :: r, ahead, st => by
    unfold goL
    split
    · simp
    · split
      · simp
      · split
        · simp
        · exact Nat.le_trans goL_ahead (by simp; lia)
theorem go_sp (c : Nat) (hx : ∀ o ∈ x6 :: (HObj.inst 1 (lexF scope pairs many strict alike)) :: ext, Plain o) {ps : List (Nat × Nat)} (hps : ps.length ≤ 100) (hp : pairs = ps.map pairV) {st : St} (o : Okk st) (hr : PairsOk st ps) :
    callN prog (c + 6) 25 [.ref 7, .ref 0] (hpOf fi ma (x6 :: (HObj.inst 1 (lexF scope pairs many strict alike)) :: ext) st) = some (.val (.bool (goS alike ps st).1), hpOf fi ma (x6 :: (HObj.inst 1 (lexF scope pairs many strict alike)) :: ext) (goS alike ps st).2) := by
  obtain ⟨o1, a1, q, f⟩ := go_go (fi := fi) (ma := ma) (scope := scope) (pairs := pairs) (many := many) (strict := strict) (alike := alike) c 8 hx hps hp ps 0 [] st none o rfl hr (by simp; lia)
  have hal := goL_ahead (alike := alike) (r := ps) (ahead := []) (st := st)
  unfold goS
  induction hg : goL alike ps [] st with
  | mk b rest =>
    obtain ⟨ahead, st'⟩ := rest
    rw [hg] at q f hal
    subst hp
    induction b with
    | some b =>
      refine run_fnT (fd := f_LexOrder_go_along) rfl rfl rfl ?_
      exact run_V q (run_d rfl)
    | none =>
      obtain rfl := f rfl
      induction alike with
      | true =>
        refine run_fnT (fd := f_LexOrder_go_along) rfl rfl rfl ?_
        rcases o1 with _ | _ <;> exact run_V q (run_d rfl)
      | false =>
        have FV := amS (failV_sp (c + 4) (fl := st'.failed) (cl := .tup (st'.clash.map Lit.v)) (d := st'.ms.map domV) (f := fi) (t := st'.tr.map Ent.v) (m := ma) (n := st'.n) (r := x6 :: .inst 1 (lexF scope (ps.map pairV) many strict false) :: ext) (v := .lst (a1.map Lit.v)) rfl (by simp at hal ⊢; lia))
        refine run_fnT (fd := f_LexOrder_go_along) rfl rfl rfl ?_
        rcases o1 with _ | _ <;> exact run_V q (run_V rfl (run_V FV (run_d rfl)))
end
end Mine.Internal.P
namespace Mine.Internal.P
noncomputable def propS (pass : St → Bool × St) : Nat → St → Bool × St
  | 0, st => (true, st)
  | f + 1, st => match pass st with
    | (false, st') => (false, st')
    | (true, st') => if st.tr.length < st'.tr.length then propS pass f st' else (true, st')
noncomputable def outB (r : Bool × St) : Out := if r.1 then .next else .ret (.val (.bool false))
theorem while_prop {B : Loc → Hp → Option (Bool × Hp)} {S : Loc → Hp → Option (Out × Loc × Hp)} {fi ma : List V} {rest : Hp} {pass : St → Bool × St} {I : St → Prop} {ω : Type} {L : ω → Int → Loc}
    (hc : ∀ st w b, B (L w b) (hpOf fi ma rest st) = some (decide (b < (st.tr.length : Int)), hpOf fi ma rest st))
    (hb : ∀ st w b, Okk st → I st → ∃ w', S (L w b) (hpOf fi ma rest st) = some (outB (pass st), L w' st.tr.length, hpOf fi ma rest (pass st).2))
    (hp : ∀ st, Okk st → I st → (pass st).1 = true → Okk (pass st).2 ∧ I (pass st).2) :
    ∀ f st w b, Okk st → I st → b < (st.tr.length : Int) → 30 < st.tr.length + f → ∃ w' b', whileGo B S (f + 1) (L w b) (hpOf fi ma rest st) = some (outB (propS pass f st), L w' b', hpOf fi ma rest (propS pass f st).2)
  | 0 => @fun st w b o i hlt hf => absurd o.t (by lia)
  | f + 1 => @fun st w b o i hlt hf => by
    have h1 := hc st w b
    rw [decide_eq_true hlt] at h1
    obtain ⟨w1, h2⟩ := hb st w b o i
    have h3 := hp st o i
    unfold propS
    show ∃ w' b', obn (B (L w b) (hpOf fi ma rest st)) _ = _
    rw [h1, obn_eq]
    show ∃ w' b', obs (S (L w b) (hpOf fi ma rest st)) _ = _
    rw [h2, obs_eq]
    generalize pass st = e at *
    obtain ⟨b1, st1⟩ := e
    induction b1 with
    | false => exact ⟨w1, (st.tr.length : Int), rfl⟩
    | true =>
      obtain ⟨o1, i1⟩ := h3 rfl
      show ∃ w' b', whileGo B S (f + 1) (L w1 st.tr.length) (hpOf fi ma rest st1) = _
      dsimp only
      by_cases c1 : st.tr.length < st1.tr.length
      · rw [if_pos c1]
        exact while_prop hc hb hp f st1 w1 _ o1 i1 (by lia) (by lia)
      · rw [if_neg c1]
        refine ⟨w1, (st.tr.length : Int), ?_⟩
        have h5 := hc st1 w1 st.tr.length
        rw [decide_eq_false (by lia)] at h5
        show obn (B (L w1 _) (hpOf fi ma rest st1)) _ = _
        rw [h5, obn_eq]
        rfl
theorem goL_ok {alike : Bool} : ∀ {r : List (Nat × Nat)} {ahead : List Lit} {st : St}, Okk st → PairsOk st r → (goL alike r ahead st).1 ≠ some false → Okk (goL alike r ahead st).2.2 ∧ (goL alike r ahead st).2.2.ms.length = st.ms.length
  | [], ahead, st => @fun o _ _ => ⟨o, rfl⟩
  | (x, y) :: r, ahead, st => @fun o hr h => by
    obtain ⟨hx1, hy1⟩ := hr (x, y) (.head _)
    dsimp only at hx1 hy1
    have bx := ends_in (o.ok.at hx1).1 (o.ok.at hx1).2
    have bY := ends_in (o.ok.at hy1).1 (o.ok.at hy1).2
    unfold goL at h ⊢
    have hg : ∃ g : Int, (if (brokenS alike st.ms r).isSome = true then (1 : Int) else 0) = g ∧ 0 ≤ g ∧ g ≤ 1 := by
      split
      · exact ⟨1, rfl, by decide, by decide⟩
      · exact ⟨0, rfl, by decide, by decide⟩
    obtain ⟨g, hg, hg0, hg1⟩ := hg
    rw [hg] at h ⊢
    have lv1 : Lit.ok ⟨x, 0, hiM (st.ms.getD y 0) - g⟩ st.ms.length := ⟨hx1, by show 0 < 4; decide, by show -3 ≤ hiM (st.ms.getD y 0) - g; lia, by show hiM (st.ms.getD y 0) - g ≤ 6; lia⟩
    have E1 := enter_ok (rs := some (ahead ++ [⟨y, 0, hiM (st.ms.getD y 0)⟩] ++ (brokenS alike st.ms r).getD [])) o lv1
    have F1 := enter_len (st := st) (l := ⟨x, 0, hiM (st.ms.getD y 0) - g⟩) (rs := some (ahead ++ [⟨y, 0, hiM (st.ms.getD y 0)⟩] ++ (brokenS alike st.ms r).getD []))
    split
    · rename_i st1 he1
      rw [he1] at h; exact absurd rfl h
    · rename_i st1 he1
      rw [he1] at E1 F1 h
      have o1 := E1 rfl
      dsimp only at h F1
      have lv2 : Lit.ok ⟨y, 1, loM (st.ms.getD x 0) + g⟩ st1.ms.length := ⟨by rw [F1]; exact hy1, by show 1 < 4; decide, by show -3 ≤ loM (st.ms.getD x 0) + g; lia, by show loM (st.ms.getD x 0) + g ≤ 6; lia⟩
      have E2 := enter_ok (rs := some (ahead ++ [⟨x, 1, loM (st.ms.getD x 0)⟩] ++ (brokenS alike st.ms r).getD [])) o1 lv2
      have F2 := enter_len (st := st1) (l := ⟨y, 1, loM (st.ms.getD x 0) + g⟩) (rs := some (ahead ++ [⟨x, 1, loM (st.ms.getD x 0)⟩] ++ (brokenS alike st.ms r).getD []))
      split
      · rename_i st2 he2
        rw [he2] at h; exact absurd rfl h
      · rename_i st2 he2
        rw [he2] at E2 F2 h
        have o2 := E2 rfl
        dsimp only at h F2
        split
        · exact ⟨o2, by rw [F2, F1]⟩
        · rename_i hlt
          rw [if_neg hlt] at h
          have := goL_ok (alike := alike) (r := r) (st := st2) o2 (fun p m => by rw [F2, F1]; exact hr p (.tail _ m)) h
          exact ⟨this.1, by rw [this.2, F2, F1]⟩
theorem goS_ok {alike : Bool} {ps : List (Nat × Nat)} {st : St} (o : Okk st) (hr : PairsOk st ps) (h : (goS alike ps st).1 = true) : Okk (goS alike ps st).2 ∧ (goS alike ps st).2.ms.length = st.ms.length := by
  have g := goL_ok (alike := alike) (ahead := []) o hr
  unfold goS at h ⊢
  induction hg : goL alike ps [] st with
  | mk b rest =>
    obtain ⟨ahead, st'⟩ := rest
    rw [hg] at g h
    induction b with
    | some b => dsimp only at h; subst h; exact g (by simp)
    | none =>
      induction alike with
      | true => exact g (by simp)
      | false => exact nB h
section
variable {fi ma : List V} {x6 : HObj} {ext : Hp} {scope pairs : List V} {many : Nat} {strict alike : Bool}
noncomputable def locW (_ : Unit) (b : Int) : Loc := [(13, .ref 7), (40, .ref 0), (41, .val (.int b))]
theorem prop_lex_sp (c : Nat) (hx : ∀ o ∈ x6 :: (HObj.inst 1 (lexF scope pairs many strict alike)) :: ext, Plain o) {ps : List (Nat × Nat)} (hps : ps.length ≤ 100) (hp : pairs = ps.map pairV) {st : St} (o : Okk st) (hr : PairsOk st ps) :
    callN prog (c + 7) 24 [.ref 7, .ref 0] (hpOf fi ma (x6 :: (HObj.inst 1 (lexF scope pairs many strict alike)) :: ext) st) = some (.val (.bool (propS (goS alike ps) 63 st).1), hpOf fi ma (x6 :: (HObj.inst 1 (lexF scope pairs many strict alike)) :: ext) (propS (goS alike ps) 63 st).2) := by
  have W := while_prop (B := fun l h => (evD prog (callN prog (c + 6)) 23).B l h (.cmp .lt (.loc 41) (.blt .len [(.attr (.loc 40) 16)]))) (S := fun l h => block (evD prog (callN prog (c + 6)) 23).S [(.asg (.name 41) (.blt .len [(.attr (.loc 40) 16)])), (.iff (.not (.meth (.loc 13) 42 [(.loc 40)])) [(.ret (some (.cbool false)))] [])] l h)
    (fi := fi) (ma := ma) (rest := x6 :: (HObj.inst 1 (lexF scope pairs many strict alike)) :: ext) (pass := goS alike ps) (I := fun s => PairsOk s ps) (L := locW)
    (fun st w b => run_B (by
      have a1 := ltI' b (st.tr.length : Int)
      exact run_K b_lenM (run_K a1 (run_done rfl))))
    (fun st w b o hr => by
      have G := amS (go_sp (fi := fi) (ma := ma) (x6 := x6) (ext := ext) (scope := scope) (pairs := pairs) (many := many) (strict := strict) (alike := alike) c hx hps hp o hr)
      generalize goS alike ps st = e at *
      obtain ⟨b, st'⟩ := e
      refine ⟨w, run_blk ?_⟩
      rcases b with _ | _ <;> exact run_K b_lenM (run_K rfl (run_K G (run_done rfl))))
    (fun st o hr h => by
      obtain ⟨a, b⟩ := goS_ok o hr h
      exact ⟨a, fun p m => by rw [b]; exact hr p m⟩)
    63 st () (-((1 : Nat) : Int)) o hr (by lia) (by lia)
  generalize propS (goS alike ps) 63 st = e at *
  obtain ⟨_, b', W⟩ := W
  obtain ⟨b, st'⟩ := e
  refine run_fnT (fd := f_LexOrder_propagate) rfl rfl rfl ?_
  rcases b with _ | _ <;> exact run_V W (run_d rfl)
end
end Mine.Internal.P
namespace Mine.Internal.P
noncomputable def fwdS : List Nat → St → Bool × St
  | [], st => (true, st)
  | j :: r, st => match enterS st ⟨j + 1, 1, loM (st.ms.getD j 0)⟩ (some [⟨j, 1, loM (st.ms.getD j 0)⟩]) with
    | (false, st1) => (false, st1)
    | (true, st1) => fwdS r st1
noncomputable def bwdS : List Nat → St → Bool × St
  | [], st => (true, st)
  | j :: r, st => match enterS st ⟨j, 0, hiM (st.ms.getD (j + 1) 0)⟩ (some [⟨j + 1, 0, hiM (st.ms.getD (j + 1) 0)⟩]) with
    | (false, st1) => (false, st1)
    | (true, st1) => bwdS r st1
noncomputable def incS (n : Nat) (st : St) : Bool × St := match fwdS (List.range (n - 1)) st with
  | (false, st1) => (false, st1)
  | (true, st1) => bwdS ((List.range (n - 1)).map fun j => n - 2 - j) st1
theorem fwd_ok : ∀ {ks : List Nat} {st : St}, Okk st → (∀ j ∈ ks, j + 1 < st.ms.length) → (fwdS ks st).1 = true → Okk (fwdS ks st).2 ∧ (fwdS ks st).2.ms.length = st.ms.length
  | [], st => @fun o _ _ => ⟨o, rfl⟩
  | j :: r, st => @fun o hk h => by
    have hj := hk j (.head _)
    have b := ends_in (o.ok.at (x := j) (by lia)).1 (o.ok.at (x := j) (by lia)).2
    have lv : Lit.ok ⟨j + 1, 1, loM (st.ms.getD j 0)⟩ st.ms.length := ⟨hj, by show 1 < 4; decide, by show -3 ≤ loM (st.ms.getD j 0); lia, by show loM (st.ms.getD j 0) ≤ 6; lia⟩
    have E := enter_ok (rs := some [⟨j, 1, loM (st.ms.getD j 0)⟩]) o lv
    have F := enter_len (st := st) (l := ⟨j + 1, 1, loM (st.ms.getD j 0)⟩) (rs := some [⟨j, 1, loM (st.ms.getD j 0)⟩])
    unfold fwdS at h ⊢
    split
    · rename_i st1 e; rw [e] at h; injection h
    · rename_i st1 e
      rw [e] at h E F
      have := fwd_ok (E rfl) (fun i m => by rw [F]; exact hk i (.tail _ m)) h
      exact ⟨this.1, by rw [this.2, F]⟩
theorem bwd_ok : ∀ {ks : List Nat} {st : St}, Okk st → (∀ j ∈ ks, j + 1 < st.ms.length) → (bwdS ks st).1 = true → Okk (bwdS ks st).2 ∧ (bwdS ks st).2.ms.length = st.ms.length
  | [], st => @fun o _ _ => ⟨o, rfl⟩
  | j :: r, st => @fun o hk h => by
    have hj := hk j (.head _)
    have b := ends_in (o.ok.at (x := j + 1) hj).1 (o.ok.at (x := j + 1) hj).2
    have lv : Lit.ok ⟨j, 0, hiM (st.ms.getD (j + 1) 0)⟩ st.ms.length := ⟨by show j < _; lia, by show 0 < 4; decide, by show -3 ≤ hiM (st.ms.getD (j + 1) 0); lia, by show hiM (st.ms.getD (j + 1) 0) ≤ 6; lia⟩
    have E := enter_ok (rs := some [⟨j + 1, 0, hiM (st.ms.getD (j + 1) 0)⟩]) o lv
    have F := enter_len (st := st) (l := ⟨j, 0, hiM (st.ms.getD (j + 1) 0)⟩) (rs := some [⟨j + 1, 0, hiM (st.ms.getD (j + 1) 0)⟩])
    unfold bwdS at h ⊢
    split
    · rename_i st1 e; rw [e] at h; injection h
    · rename_i st1 e
      rw [e] at h E F
      have := bwd_ok (E rfl) (fun i m => by rw [F]; exact hk i (.tail _ m)) h
      exact ⟨this.1, by rw [this.2, F]⟩
theorem fwd_idx {n : Nat} : ∀ j ∈ List.range (n - 1), j + 1 < n := fun j m => by have := List.mem_range.mp m; lia
theorem bwd_idx {n : Nat} : ∀ j ∈ (List.range (n - 1)).map (fun j => n - 2 - j), j + 1 < n := fun j m => by
  obtain ⟨i, hi, rfl⟩ := List.mem_map.mp m
  have := List.mem_range.mp hi; lia
theorem inc_ok {n : Nat} {st : St} (o : Okk st) (hn : st.ms.length = n) (h : (incS n st).1 = true) : Okk (incS n st).2 ∧ (incS n st).2.ms.length = n := by
  have F := fwd_ok (ks := List.range (n - 1)) o (fun j m => by rw [hn]; exact fwd_idx j m)
  unfold incS at h ⊢
  split
  · rename_i st1 e; rw [e] at h; injection h
  · rename_i st1 e
    rw [e] at h F
    obtain ⟨o1, e1⟩ := F rfl
    have B := bwd_ok (ks := (List.range (n - 1)).map fun j => n - 2 - j) o1 (fun j m => by rw [e1, hn]; exact bwd_idx j m) h
    exact ⟨B.1, by rw [B.2, e1, hn]⟩
theorem rngD (n : Nat) : rngItems ((n : Int) - ((1 : Nat) : Int)) ((0 : Nat) : Int) (-1) = ((List.range (n - 1)).map fun j => n - 2 - j).map fun (j : Nat) => .int ((j + 1 : Nat) : Int) := by
  unfold rngItems rngN
  rw [if_neg (by decide), if_pos rfl]
  have : ((n : Int) - ((1 : Nat) : Int) - ((0 : Nat) : Int)).toNat = n - 1 := by lia
  rw [this, List.map_map]
  refine List.map_congr_left fun j m => ?_
  have := List.mem_range.mp m
  show V.int _ = V.int _
  congr 1
  dsimp only
  lia
theorem b_rngD {n : Nat} (h : n ≤ 2000) : bltV .range [.int ((n : Int) - ((1 : Nat) : Int)), .int ((0 : Nat) : Int), .int (-((1 : Nat) : Int))] = some (.rng ((n : Int) - ((1 : Nat) : Int)) ((0 : Nat) : Int) (-1)) := by
  show (if (decide (-((1 : Nat) : Int) = -1) && okR ((n : Int) - ((1 : Nat) : Int)) && okR ((0 : Nat) : Int)) = true then _ else _) = _
  rw [if_pos (by simp only [okR, Bool.and_eq_true, decide_eq_true_eq]; lia)]
  rfl
section
variable {fi ma : List V} {x6 : HObj} {ext : Hp} {n : Nat}
noncomputable def scopeV (n : Nat) : List V := (List.range n).map fun (j : Nat) => .int (j : Int)
theorem scope_at {n j : Nat} (h : j < n) : atIdx (scopeV n) (j : Int) = some (.int (j : Int)) := (atIdx_nat _ _).trans (by simp [scopeV, h])
noncomputable def fwdB : List CS := [(.asg (.name 2) (.meth (.loc 40) 2 [(.idx (.attr (.loc 13) 31) (.bin .sub (.loc 1) (.cint 1)))])), (.iff (.not (.meth (.loc 40) 49 [(.tup [(.idx (.attr (.loc 13) 31) (.loc 1)), (.cstr 1), (.loc 2)]), (.lst false [(.tup [(.idx (.attr (.loc 13) 31) (.bin .sub (.loc 1) (.cint 1))), (.cstr 1), (.loc 2)])])])) [(.ret (some (.cbool false)))] [])]
noncomputable def bwdB : List CS := [(.asg (.name 3) (.meth (.loc 40) 3 [(.idx (.attr (.loc 13) 31) (.loc 1))])), (.iff (.not (.meth (.loc 40) 49 [(.tup [(.idx (.attr (.loc 13) 31) (.bin .sub (.loc 1) (.cint 1))), (.cstr 0), (.loc 3)]), (.lst false [(.tup [(.idx (.attr (.loc 13) 31) (.loc 1)), (.cstr 0), (.loc 3)])])])) [(.ret (some (.cbool false)))] [])]
inductive LI where
  | n0
  | n12 (a b : V)
  | n123 (a b c : V)
noncomputable def LI.ctorIdx (o : LI) : Nat := @LI.casesOn (fun _ => Nat) o 0 (fun _ _ => 1) (fun _ _ _ => 2)
noncomputable def locI (o : LI) (b : Int) : Loc := (13, .ref 7) :: (40, .ref 0) :: (41, .val (.int b)) :: @LI.casesOn (fun _ => Loc) o [] (fun p q => [(1, .val p), (2, .val q)]) fun p q r => [(1, .val p), (2, .val q), (3, .val r)]
theorem inc_fwd (c d : Nat) {b : Int} : ∀ (ks : List Nat) (st : St) (o : LI), Okk st → st.ms.length = n → (∀ j ∈ ks, j + 1 < n) → ∃ o1,
    forGo (forB (evD prog (callN prog (c + 5)) (d + 12)) (.name 1) fwdB) (ks.map fun (j : Nat) => .int ((j + 1 : Nat) : Int)) (locI o b) (hpOf fi ma (x6 :: (HObj.inst 2 (incF (scopeV n))) :: ext) st) = some (outB (fwdS ks st), locI o1 b, hpOf fi ma (x6 :: (HObj.inst 2 (incF (scopeV n))) :: ext) (fwdS ks st).2) ∧ ((o ≠ .n0 ∨ ks ≠ []) → o1 ≠ .n0)
  | [] => @fun st o _ _ _ => ⟨o, rfl, fun h => h.elim id fun h => absurd rfl h⟩
  | j :: r => @fun st o ok hn hk => by
    have hj := hk j (.head _)
    have hj0 : j < st.ms.length := by lia
    have L1 := amS (low_sp (fi := fi) (ma := ma) (rest := x6 :: (HObj.inst 2 (incF (scopeV n))) :: ext) (c + 3) ok.ok hj0)
    have bb := getLo (o := ok) hj0
    unfold fwdS
    generalize loM (st.ms.getD (j) 0) = lo at *
    have lv : Lit.ok ⟨j + 1, 1, lo⟩ st.ms.length := ⟨by show j + 1 < _; lia, by show 1 < 4; decide, by show -3 ≤ lo; lia, by show lo ≤ 6; lia⟩
    have S1 := amS (strike_sp (fi := fi) (ma := ma) (rest := x6 :: (HObj.inst 2 (incF (scopeV n))) :: ext) c (R := [⟨j, 1, lo⟩]) ok.ok lv (by simp))
    have e1 : binV .sub (.int ((j + 1 : Nat) : Int)) (.int ((1 : Nat) : Int)) = some (.int (j : Int)) := by rw [subI]; congr 2; lia
    have s1 := scope_at (n := n) (j := j) (by lia)
    have s2 := scope_at (n := n) (j := j + 1) hj
    have E := enter_ok (rs := some [⟨j, 1, lo⟩]) ok lv
    have F := enter_len (st := st) (l := ⟨j + 1, 1, lo⟩) (rs := some [⟨j, 1, lo⟩])
    generalize enterS st ⟨j + 1, 1, lo⟩ (some [⟨j, 1, lo⟩]) = e at *
    obtain ⟨b1, st1⟩ := e
    have T : ∃ o2, o2 ≠ LI.n0 ∧ forB (evD prog (callN prog (c + 5)) (d + 12)) (.name 1) fwdB (.int ((j + 1 : Nat) : Int)) (locI o b) (hpOf fi ma (x6 :: (HObj.inst 2 (incF (scopeV n))) :: ext) st) = some (@Bool.casesOn (fun _ => Out) b1 (.ret (.val (.bool false))) .next, locI o2 b, hpOf fi ma (x6 :: (HObj.inst 2 (incF (scopeV n))) :: ext) st1) := by
      cases o with
      | n0 =>
        refine ⟨.n12 (.int ((j + 1 : Nat) : Int)) (.int lo), (fun h => nomatch h), run_forB rfl ?_⟩
        rcases b1 with _ | _ <;> exact run_K rfl (run_K e1 (run_K s1 (run_K L1 (run_K rfl (run_K s2 (run_K e1 (run_K s1 (run_K S1 (run_done rfl)))))))))
      | n12 _ _ =>
        refine ⟨.n12 (.int ((j + 1 : Nat) : Int)) (.int lo), (fun h => nomatch h), run_forB rfl ?_⟩
        rcases b1 with _ | _ <;> exact run_K rfl (run_K e1 (run_K s1 (run_K L1 (run_K rfl (run_K s2 (run_K e1 (run_K s1 (run_K S1 (run_done rfl)))))))))
      | n123 _ _ z =>
        refine ⟨.n123 (.int ((j + 1 : Nat) : Int)) (.int lo) z, (fun h => nomatch h), run_forB rfl ?_⟩
        rcases b1 with _ | _ <;> exact run_K rfl (run_K e1 (run_K s1 (run_K L1 (run_K rfl (run_K s2 (run_K e1 (run_K s1 (run_K S1 (run_done rfl)))))))))
    obtain ⟨o2, n2, T⟩ := T
    induction b1 with
    | false => exact ⟨o2, forGo_ret T, fun _ => n2⟩
    | true =>
      obtain ⟨o1, q, z⟩ := inc_fwd c d (b := b) r st1 o2 (E rfl) (F.trans hn) (fun i m => hk i (.tail _ m))
      exact ⟨o1, (forGo_next T).trans q, fun _ => z (.inl n2)⟩
theorem inc_bwd (c d : Nat) {b : Int} : ∀ (ks : List Nat) (st : St) (o : LI), Okk st → st.ms.length = n → (∀ j ∈ ks, j + 1 < n) → (ks = [] ∨ o ≠ .n0) → ∃ o1,
    forGo (forB (evD prog (callN prog (c + 5)) (d + 12)) (.name 1) bwdB) (ks.map fun (j : Nat) => .int ((j + 1 : Nat) : Int)) (locI o b) (hpOf fi ma (x6 :: (HObj.inst 2 (incF (scopeV n))) :: ext) st) = some (outB (bwdS ks st), locI o1 b, hpOf fi ma (x6 :: (HObj.inst 2 (incF (scopeV n))) :: ext) (bwdS ks st).2)
  | [] => @fun st o _ _ _ _ => ⟨o, rfl⟩
  | j :: r => @fun st o ok hn hk ho => by
    have hj := hk j (.head _)
    have hj0 : j + 1 < st.ms.length := by lia
    have L1 := amS (high_sp (fi := fi) (ma := ma) (rest := x6 :: (HObj.inst 2 (incF (scopeV n))) :: ext) (c + 3) ok.ok hj0)
    have bb := getLo (o := ok) hj0
    unfold bwdS
    generalize hiM (st.ms.getD (j + 1) 0) = lo at *
    have lv : Lit.ok ⟨j, 0, lo⟩ st.ms.length := ⟨by show j < _; lia, by show 0 < 4; decide, by show -3 ≤ lo; lia, by show lo ≤ 6; lia⟩
    have S1 := amS (strike_sp (fi := fi) (ma := ma) (rest := x6 :: (HObj.inst 2 (incF (scopeV n))) :: ext) c (R := [⟨j + 1, 0, lo⟩]) ok.ok lv (by simp))
    have e1 : binV .sub (.int ((j + 1 : Nat) : Int)) (.int ((1 : Nat) : Int)) = some (.int (j : Int)) := by rw [subI]; congr 2; lia
    have s1 := scope_at (n := n) (j := j) (by lia)
    have s2 := scope_at (n := n) (j := j + 1) hj
    have E := enter_ok (rs := some [⟨j + 1, 0, lo⟩]) ok lv
    have F := enter_len (st := st) (l := ⟨j, 0, lo⟩) (rs := some [⟨j + 1, 0, lo⟩])
    generalize enterS st ⟨j, 0, lo⟩ (some [⟨j + 1, 0, lo⟩]) = e at *
    obtain ⟨b1, st1⟩ := e
    have T : ∃ o2, o2 ≠ LI.n0 ∧ forB (evD prog (callN prog (c + 5)) (d + 12)) (.name 1) bwdB (.int ((j + 1 : Nat) : Int)) (locI o b) (hpOf fi ma (x6 :: (HObj.inst 2 (incF (scopeV n))) :: ext) st) = some (@Bool.casesOn (fun _ => Out) b1 (.ret (.val (.bool false))) .next, locI o2 b, hpOf fi ma (x6 :: (HObj.inst 2 (incF (scopeV n))) :: ext) st1) := by
      induction o with
      | n0 => exact absurd rfl (ho.resolve_left (fun h => nomatch h))
      | n12 _ y =>
        refine ⟨.n123 (.int ((j + 1 : Nat) : Int)) y (.int lo), (fun h => nomatch h), run_forB rfl ?_⟩
        rcases b1 with _ | _ <;> exact run_K rfl (run_K s2 (run_K L1 (run_K rfl (run_K e1 (run_K s1 (run_K s2 (run_K S1 (run_done rfl))))))))
      | n123 _ y _ =>
        refine ⟨.n123 (.int ((j + 1 : Nat) : Int)) y (.int lo), (fun h => nomatch h), run_forB rfl ?_⟩
        rcases b1 with _ | _ <;> exact run_K rfl (run_K s2 (run_K L1 (run_K rfl (run_K e1 (run_K s1 (run_K s2 (run_K S1 (run_done rfl))))))))
    obtain ⟨o2, n2, T⟩ := T
    induction b1 with
    | false => exact ⟨o2, forGo_ret T⟩
    | true =>
      obtain ⟨o1, q⟩ := inc_bwd c d (b := b) r st1 o2 (E rfl) (F.trans hn) (fun i m => hk i (.tail _ m)) (.inr n2)
      exact ⟨o1, (forGo_next T).trans q⟩
theorem prop_inc_sp (c : Nat) (hn100 : n ≤ 100) {st : St} (o : Okk st) (hn : st.ms.length = n) :
    callN prog (c + 6) 30 [.ref 7, .ref 0] (hpOf fi ma (x6 :: (HObj.inst 2 (incF (scopeV n))) :: ext) st) = some (.val (.bool (propS (incS n) 63 st).1), hpOf fi ma (x6 :: (HObj.inst 2 (incF (scopeV n))) :: ext) (propS (incS n) 63 st).2) := by
  have hsl : bltV .len [.tup (scopeV n)] = some (.int (n : Int)) := by
    show some (V.int ((scopeV n).length : Int)) = _
    rw [show (scopeV n).length = n by simp [scopeV]]
  have hb1 := b_rng1 (a := 1) (n := n) (by lia) (by decide)
  have hb2 := b_rngD (n := n) (by lia)
  have W := while_prop (B := fun l h => (evD prog (callN prog (c + 5)) 23).B l h (.cmp .lt (.loc 41) (.blt .len [(.attr (.loc 40) 16)]))) (S := fun l h => block (evD prog (callN prog (c + 5)) 23).S [(.asg (.name 41) (.blt .len [(.attr (.loc 40) 16)])), (.for_ (.name 1) (.blt .range [(.cint 1), (.blt .len [(.attr (.loc 13) 31)])]) fwdB), (.for_ (.name 1) (.blt .range [(.bin .sub (.blt .len [(.attr (.loc 13) 31)]) (.cint 1)), (.cint 0), (.neg (.cint 1))]) bwdB)] l h)
    (fi := fi) (ma := ma) (rest := x6 :: (HObj.inst 2 (incF (scopeV n))) :: ext) (pass := incS n) (I := fun s => s.ms.length = n) (L := locI)
    (fun st w b => run_B (by
      have a1 := ltI' b (st.tr.length : Int)
      rcases w with _ | _ <;> exact run_K b_lenM (run_K a1 (run_done rfl))))
    (fun st w b o hn => by
      obtain ⟨w1, q1, f1⟩ := inc_fwd (fi := fi) (ma := ma) (x6 := x6) (ext := ext) (n := n) c 10 (b := st.tr.length) (List.range (n - 1)) st w o hn (fun j m => fwd_idx j m)
      have F := fwd_ok (ks := List.range (n - 1)) o (fun j m => by rw [hn]; exact fwd_idx j m)
      unfold incS
      generalize fwdS (List.range (n - 1)) st = e at *
      obtain ⟨b1, st1⟩ := e
      rw [← rng1] at q1
      induction b1 with
      | false =>
        refine ⟨w1, run_blk ?_⟩
        rcases w with _ | _ <;> exact run_K b_lenM (run_K hsl (run_K hb1 (run_K q1 (run_done rfl))))
      | true =>
        obtain ⟨o1, e1⟩ := F rfl
        obtain ⟨w2, q2⟩ := inc_bwd (fi := fi) (ma := ma) (x6 := x6) (ext := ext) (n := n) c 10 (b := st.tr.length) ((List.range (n - 1)).map fun j => n - 2 - j) st1 w1 o1 (e1.trans hn) (fun j m => bwd_idx j m) (by
          by_cases z : List.range (n - 1) = []
          · rw [z]; exact .inl rfl
          · exact .inr (f1 (.inr z)))
        rw [← rngD] at q2
        have sb := subI (a := (n : Int)) (b := ((1 : Nat) : Int))
        dsimp only
        generalize bwdS ((List.range (n - 1)).map fun j => n - 2 - j) st1 = e at *
        obtain ⟨b2, st2⟩ := e
        refine ⟨w2, run_blk ?_⟩
        rcases b2 with _ | _ <;> rcases w with _ | _ <;> rcases w1 with _ | _ <;> exact run_K b_lenM (run_K hsl (run_K hb1 (run_K q1 (run_K hsl (run_K sb (run_K hb2 (run_K q2 (run_done rfl)))))))))
    (fun st o hn h => inc_ok o hn h)
    63 st .n0 (-((1 : Nat) : Int)) o hn (by lia) (by lia)
  generalize propS (incS n) 63 st = e at *
  obtain ⟨w', b', W⟩ := W
  obtain ⟨b, st'⟩ := e
  refine run_fnT (fd := f_Increasing_propagate) rfl rfl rfl ?_
  rcases b with _ | _ <;> cases w' <;> exact run_V W (run_d rfl)
end
end Mine.Internal.P
namespace Mine.Internal.P
noncomputable def flt_chk : Bool := (List.range 16).all fun m => (List.range 4).all fun sg => (List.range 10).all fun j => decide ((lotI m).filter (saysI sg (kOf j)) = lotI (strikeM m sg (kOf j)))
theorem flt_ok : flt_chk = true := by kernel_rfl
theorem flt {m sg : Nat} {k : Int} (hm : m < 16) (hs : sg < 4) (hk : -3 ≤ k ∧ k ≤ 6) : (lotI m).filter (saysI sg k) = lotI (strikeM m sg k) := by
  obtain ⟨j, hj, rfl⟩ := kOf_of hk
  have := List.all_eq_true.mp (List.all_eq_true.mp (List.all_eq_true.mp flt_ok m (List.mem_range.mpr hm)) sg (List.mem_range.mpr hs)) j (List.mem_range.mpr hj)
  exact of_decide_eq_true this
theorem lotI_len {m : Nat} : (lotI m).length ≤ 4 := by
  unfold lotI valsM
  rw [List.length_map]
  exact Nat.le_trans (List.length_filter_le _ _) (by simp)
noncomputable def ChainP (good : List (List Int)) : List Nat → List Ent → Prop
  | _, [] => True
  | ms, e :: r => e.x < ms.length ∧ ms.getD e.x 0 = e.m ∧ e.m < 16 ∧ e.l.x = e.x ∧ e.l.sg < 4 ∧ -3 ≤ e.l.k ∧ e.l.k ≤ 6 ∧
    (∃ R, e.rs = some R ∧ R.length ≤ 2000 ∧ (∀ l ∈ R, l.sg < 4 ∧ l.x < ms.length ∧ ∀ v ∈ lotI (ms.getD l.x 0), saysL l v = true) ∧
      ∀ p ∈ good, hasAll R p = true → saysL e.l (p.getD e.x 0) = true) ∧
    ChainP good (ms.set e.x (strikeM e.m e.l.sg e.l.k)) r
noncomputable def locA (a g x1 x2 x3 x4 x5 : V) (w : Option V) : Loc := (66, .val a) :: (61, .ref 8) :: (67, .val g) :: (10, .val x1) :: (25, .val x2) :: (9, .val x3) :: (24, .val x4) :: (19, .val x5) :: @Option.casesOn V (fun _ => Loc) w [] fun v => [(60, .val v)]
inductive LR where
  | n0
  | n1 (x1 x2 x3 x4 x5 : V) (w : Option V)
noncomputable def locR (o : LR) (a g : V) : Loc := @LR.casesOn (fun _ => Loc) o [(66, .val a), (61, .ref 8), (67, .val g)] fun x1 x2 x3 x4 x5 w => locA a g x1 x2 x3 x4 x5 w
theorem lotV_map (m : Nat) : (valsM m).map nV = (lotI m).map .int := by unfold lotI; rw [List.map_map]; rfl
theorem set_self {α : Type} : ∀ {l : List α} {i : Nat} {x : α}, l[i]? = some x → l.set i x = l
  | [], i, x => @fun h => by simp at h
  | y :: l, 0, x => @fun h => by simp at h; subst h; rfl
  | y :: l, i + 1, x => @fun h => by simp at h; simp [set_self h]
noncomputable def rIn : List CS := [(.iff (.cmp .ne (.comp false [60] (.loc 4) [((.name 4), (.idx (.loc 61) (.idx (.loc 60) (.cint 0))), [(.not (.call 34 [(.loc 60), (.loc 4)]))])]) (.lst false [])) [(.ret (some (.cbool false)))] [])]
noncomputable def rGo : List CS := [(.iff (.boo false (.cmp .ne (.idx (.loc 61) (.loc 10)) (.call 37 [(.loc 25)])) (.cmp .ne (.idx (.loc 9) (.cint 0)) (.loc 10))) [(.ret (some (.cbool false)))] []), (.for_ (.name 60) (.loc 24) rIn), (.iff (.cmp .ne (.comp false [24, 9, 10] (.loc 56) [((.name 56), (.loc 67), [(.boo true (.call 35 [(.loc 24), (.loc 56)]) (.not (.call 34 [(.loc 9), (.idx (.loc 56) (.loc 10))])))])]) (.lst false [])) [(.ret (some (.cbool false)))] []), (.asg (.idx (.loc 61) (.loc 10)) (.comp false [9] (.loc 4) [((.name 4), (.idx (.loc 61) (.loc 10)), [(.call 34 [(.loc 9), (.loc 4)])])]))]
section
variable {fi ma : List V} {st : St} {x y : HObj}
theorem iLot {ms : List Nat} {x : Nat} (hx : x < ms.length) : atIdx (ms.map lotV) (x : Int) = some (lotV (ms.getD x 0)) := (atIdx_nat _ _).trans (by rw [List.getElem?_map, List.getD_eq_getElem?_getD, List.getElem?_eq_getElem hx]; rfl)
theorem says_all (c d : Nat) {hp : Hp} {l : Lit} {m : Nat} (hs : l.sg < 4) (hv : ∀ v ∈ lotI m, saysL l v = true) :
    compTop (evD prog (callN prog (c + 2)) (d + 6)) (.loc 4) (.name 4) [(.not (.call 34 [(.loc 60), (.loc 4)]))] [] [(60, .val l.v)] ((valsM m).map nV) hp = some ([], hp) := by
  rw [lotV_map]
  refine (forItems_filter (p := fun v => !saysL l v) (g := V.int) fun v hv' => turn_of rfl ?_).trans (by rw [List.filter_eq_nil_iff.mpr fun v m => by rw [hv v m]; simp]; rfl)
  have hsp := says_sp (c + 1) l v hs
  rw [hv v hv'] at hsp ⊢
  exact run_K hsp (run_done rfl)
theorem reasons_in (c d : Nat) {ms : List Nat} {a g x1 x2 x3 x4 x5 : V} : ∀ (R : List Lit) (w : Option V), (∀ l ∈ R, l.sg < 4 ∧ l.x < ms.length ∧ ∀ v ∈ lotI (ms.getD l.x 0), saysL l v = true) → ∃ w',
    forGo (forB (evD prog (callN prog (c + 2)) (d + 12)) (.name 60) rIn) (R.map Lit.v) (locA a g x1 x2 x3 x4 x5 w) (hpOf fi ma [x, y, .mlst (ms.map lotV)] st) = some (.next, locA a g x1 x2 x3 x4 x5 w', hpOf fi ma [x, y, .mlst (ms.map lotV)] st)
  | [] => @fun w _ => ⟨w, rfl⟩
  | l :: R => @fun w h => by
    obtain ⟨hs, hx, hv⟩ := h l (.head _)
    obtain ⟨w', q⟩ := reasons_in c d R (some l.v) (fun l m => h l (.tail _ m))
    refine ⟨w', ?_⟩
    have hd := iLot hx
    have hc := fun d hp => says_all c d (hp := hp) hs hv
    have hn := cmp_nnil (xs := []) (by decide)
    rcases w with _ | _ <;> refine (forGo_next (run_forB rfl ?_)).trans q <;> exact run_K rfl (run_K hd (run_K (hc _ _) (run_K rfl (run_K hn (run_done rfl)))))
set_option maxHeartbeats 4000000 in
theorem reasons_go (c d : Nat) {a : V} {good : List (List Int)} (hgl : good.length ≤ 4096) : ∀ (ents : List Ent) (ms : List Nat) (o : LR), ChainP good ms ents → (∀ p ∈ good, p.length = ms.length) → (∀ m ∈ ms, m < 16) → ∃ o1 o',
    forGo (forB (evD prog (callN prog (c + 2)) (d + 15)) (.tup [(.name 10), (.name 25), (.name 9), (.name 24), (.name 19)]) rGo) (ents.map Ent.v) (locR o a (ptsV good)) (hpOf fi ma [x, y, .mlst (ms.map lotV)] st) = some (.next, locR o1 a (ptsV good), hpOf fi ma [x, y, .mlst o'] st)
  | [] => @fun ms o _ _ _ => ⟨o, _, rfl⟩
  | ⟨ex, em, el, _⟩ :: r => @fun ms o hch hpl hm16 => by
    obtain ⟨hx, hm, hm16e, hlx, hs, hk1, hk2, ⟨R, rfl, hR, hRl, hforce⟩, hrest⟩ := hch
    dsimp only at hx hm hm16e hlx hs hk1 hk2 hforce hrest
    have hd := iLot hx
    rw [hm] at hd
    have hp2 : posIdx (ms.map lotV).length (ex : Int) = some ex := posIdx_nat (by rw [List.length_map]; exact hx)
    have hv := values_sp (c + 1) hm16e
    have hne1 := cmp_lot hm16e hm16e
    rw [decide_eq_false (by simp)] at hne1
    have hne2 := neI (el.x : Int) (ex : Int)
    rw [decide_eq_true (by rw [hlx])] at hne2
    have hn := cmp_nnil (xs := []) (by decide)
    have hc1 : ∀ d hp, compTop (evD prog (callN prog (c + 2)) (d + 8)) (.loc 56) (.name 56) [(.boo true (.call 35 [(.loc 24), (.loc 56)]) (.not (.call 34 [(.loc 9), (.idx (.loc 56) (.loc 10))])))] [] [(24, .val (.tup (R.map Lit.v))), (9, .val el.v), (10, .val (nV ex))] (good.map ptV) hp = some ([], hp) := fun d hp => by
      refine (forItems_filter (p := fun p => hasAll R p && !saysL el (p.getD ex 0)) (g := ptV) fun p hpg => turn_of rfl ?_).trans (by
        rw [List.filter_eq_nil_iff.mpr fun p m => by
          cases h : hasAll R p
          · simp
          · rw [hforce p m h]; simp]
        rfl)
      have ha := has_all_sp c (R := R) (p := p) (fun l m => ⟨(hRl l m).1, by rw [hpl p hpg]; exact (hRl l m).2.1⟩) (by lia)
      have hsp := says_sp (c + 1) el (p.getD ex 0) hs
      have hpt := iPt (p := p) (x := ex) (by rw [hpl p hpg]; exact hx)
      induction z1 : hasAll R p with
      | false =>
        rw [z1] at ha
        exact run_K ha (run_done rfl)
      | true =>
        rw [z1] at ha
        rw [hforce p hpg z1] at hsp ⊢
        exact run_K ha (run_K hpt (run_K hsp (run_done rfl)))
    have hc2 : ∀ d hp, compTop (evD prog (callN prog (c + 2)) (d + 8)) (.loc 4) (.name 4) [(.call 34 [(.loc 9), (.loc 4)])] [] [(9, .val el.v)] ((valsM em).map nV) hp = some ((lotI (strikeM em el.sg el.k)).map .int, hp) := fun d hp => by
      rw [lotV_map, ← flt hm16e hs ⟨hk1, hk2⟩]
      refine forItems_filter fun v hv' => turn_of rfl ?_
      have hsp := says_sp (c + 1) el v hs
      show _ = some (Out.ret (.val (.lst (if saysL el v = true then [V.int v] else []))), [], hp)
      induction z : saysL el v with
      | false =>
        rw [z] at hsp
        exact run_K hsp (run_done rfl)
      | true =>
        rw [z] at hsp
        exact run_K hsp (run_done rfl)
    have hlen := gd_t (show ((lotI (strikeM em el.sg el.k)).map V.int).length ≤ 4096 by have := lotI_len (m := strikeM em el.sg el.k); rw [List.length_map]; lia)
    have hset : (ms.set ex (strikeM em el.sg el.k)).map lotV = (ms.map lotV).set ex (.lst ((lotI (strikeM em el.sg el.k)).map .int)) := by rw [List.map_set, lotV_eq]
    have T : ∃ w', forB (evD prog (callN prog (c + 2)) (d + 15)) (.tup [(.name 10), (.name 25), (.name 9), (.name 24), (.name 19)]) rGo (Ent.v ⟨ex, em, el, some R⟩) (locR o a (ptsV good)) (hpOf fi ma [x, y, .mlst (ms.map lotV)] st) = some (.next, locR (.n1 (nV ex) (domV em) el.v (.tup (R.map Lit.v)) (.int (-1)) w') a (ptsV good), hpOf fi ma [x, y, .mlst ((ms.set ex (strikeM em el.sg el.k)).map lotV)] st) := by
      rw [hset]
      induction o with
      | n0 =>
        obtain ⟨w', q1⟩ := reasons_in (fi := fi) (ma := ma) (st := st) (x := x) (y := y) c (d + 2) (a := a) (g := ptsV good) (x1 := nV ex) (x2 := domV em) (x3 := el.v) (x4 := .tup (R.map Lit.v)) (x5 := .int (-1)) R none hRl
        refine ⟨w', run_forB rfl ?_⟩
        cases w' <;> exact run_K hd (run_K hv (run_K hne1 (run_K rfl (run_K hne2 (run_K q1 (run_K (hc1 _ _) (run_K rfl (run_K hn (run_K hd (run_K (hc2 _ _) (run_K hlen (run_K rfl (run_K hp2 (run_done rfl))))))))))))))
      | n1 z1 z2 z3 z4 z5 w =>
        obtain ⟨w', q1⟩ := reasons_in (fi := fi) (ma := ma) (st := st) (x := x) (y := y) c (d + 2) (a := a) (g := ptsV good) (x1 := nV ex) (x2 := domV em) (x3 := el.v) (x4 := .tup (R.map Lit.v)) (x5 := .int (-1)) R w hRl
        refine ⟨w', run_forB rfl ?_⟩
        rcases w with _ | _ <;> cases w' <;> exact run_K hd (run_K hv (run_K hne1 (run_K rfl (run_K hne2 (run_K q1 (run_K (hc1 _ _) (run_K rfl (run_K hn (run_K hd (run_K (hc2 _ _) (run_K hlen (run_K rfl (run_K hp2 (run_done rfl))))))))))))))
    obtain ⟨w', T⟩ := T
    obtain ⟨o1, o', q⟩ := reasons_go c d (a := a) hgl r (ms.set ex (strikeM em el.sg el.k)) (.n1 (nV ex) (domV em) el.v (.tup (R.map Lit.v)) (.int (-1)) w') hrest (fun p m => by rw [List.length_set]; exact hpl p m)
      (fun m mm => by rcases List.mem_or_eq_of_mem_set mm with mm | rfl; exact hm16 m mm; exact strikeM_lt)
    exact ⟨o1, o', (forGo_next T).trans q⟩
theorem right_sp (c : Nat) {good : List (List Int)} (hgl : good.length ≤ 4096) {ents : List Ent} {ms : List Nat} (hch : ChainP good ms ents) (hpl : ∀ p ∈ good, p.length = ms.length) (hm : ∀ m ∈ ms, m < 16) :
    ∃ o', callN prog (c + 3) 40 [.val (.lst (ents.map Ent.v)), .ref 8, .val (ptsV good)] (hpOf fi ma [x, y, .mlst (ms.map lotV)] st) = some (.val (.bool true), hpOf fi ma [x, y, .mlst o'] st) := by
  obtain ⟨o1, o', q⟩ := reasons_go (fi := fi) (ma := ma) (st := st) (x := x) (y := y) c 8 (a := .lst (ents.map Ent.v)) hgl ents ms .n0 hch hpl hm
  refine ⟨o', run_fnT (fd := f_law_are_reasons_right) rfl rfl rfl ?_⟩
  induction o1 with
  | n0 => exact run_V q (run_d rfl)
  | n1 x1 x2 x3 x4 x5 w => rcases w with _ | _ <;> exact run_V q (run_d rfl)
end
end Mine.Internal.P
namespace Mine.Internal.P
theorem neLs (a b : List Int) : cmpV .ne (.lst (a.map .int)) (.lst (b.map .int)) = some (!decide (a = b)) := by
  show (if depL (a.map .int) + 1 ≤ 8 ∧ depL (b.map .int) + 1 ≤ 8 then some (!eqL (a.map .int) (b.map .int)) else none) = _
  rw [depL_int, depL_int, if_pos (by decide), eqL_int]
theorem memI (v : Int) (l : List Int) : memV (.int v) (l.map .int) = decide (v ∈ l) := by
  induction l with
  | nil => rfl
  | cons a r ih =>
    have : memV (.int v) (r.map .int) = (r.map V.int).any fun y => eqV y (.int v) := rfl
    show (eqV (.int a) (.int v) || (r.map V.int).any fun y => eqV y (.int v)) = _
    rw [← this, ih]
    show (decide (a = v) || decide (v ∈ r)) = _
    by_cases h : a = v
    · simp [h]
    · have : ¬ v = a := fun e => h e.symm
      simp [h, this]
theorem notinI (v : Int) (l : List Int) : cmpV .notin (.int v) (.lst (l.map .int)) = some (!decide (v ∈ l)) := by
  show (if depV (.int v) ≤ 8 ∧ depL (l.map .int) ≤ 8 then some (!memV (.int v) (l.map .int)) else none) = _
  rw [depL_int, if_pos ⟨Nat.zero_le _, Nat.zero_le _⟩, memI]
noncomputable def endsI (bf : List (List Int)) (x : Nat) : List Int := setMs (bf.map fun p => p.getD x 0)
noncomputable def rangeI (m : Nat) : List Int := (List.range ((hiM m).toNat + 1 - (loM m).toNat)).map fun (j : Nat) => loM m + (j : Int)
theorem setMs_lt {is : List Int} : (setMs is).length ≤ 4 := by
  unfold setMs
  rw [List.length_map]
  exact Nat.le_trans (List.length_filter_le _ _) (by simp)
noncomputable def bnd_chk : Bool := (List.range 16).all fun m => (m == 0) || ((match atIdx ((lotI m).map .int) ((0 : Nat) : Int) with | some v => beqV v (.int (loM m)) | none => false) && (match atIdx ((lotI m).map .int) (-((1 : Nat) : Int)) with | some v => beqV v (.int (hiM m)) | none => false) &&
  beqL (rngItems (loM m) (hiM m + ((1 : Nat) : Int)) 1) ((rangeI m).map .int) && (okR (loM m) && okR (hiM m + ((1 : Nat) : Int))) && decide ((rangeI m).length ≤ 4))
theorem bnd_ok : bnd_chk = true := by kernel_rfl
theorem bnd {m : Nat} (hm : m < 16) (h0 : m ≠ 0) : atIdx ((lotI m).map .int) ((0 : Nat) : Int) = some (.int (loM m)) ∧ atIdx ((lotI m).map .int) (-((1 : Nat) : Int)) = some (.int (hiM m)) ∧ rngItems (loM m) (hiM m + ((1 : Nat) : Int)) 1 = (rangeI m).map .int ∧
    bltV .range [.int (loM m), .int (hiM m + ((1 : Nat) : Int))] = some (.rng (loM m) (hiM m + ((1 : Nat) : Int)) 1) ∧ (rangeI m).length ≤ 4 := by
  have h := List.all_eq_true.mp bnd_ok m (List.mem_range.mpr hm)
  simp only [Bool.or_eq_true, beq_iff_eq, Bool.and_eq_true] at h
  obtain ⟨⟨⟨⟨h1, h2⟩, h3⟩, h4⟩, h5⟩ := h.resolve_left h0
  refine ⟨?_, ?_, beqL_eq h3, ?_, of_decide_eq_true h5⟩
  · split at h1
    · rename_i v e; rw [e, beqV_eq h1]
    · injection h1
  · split at h2
    · rename_i v e; rw [e, beqV_eq h2]
    · injection h2
  · show (if (okR (loM m) && okR (hiM m + ((1 : Nat) : Int))) = true then _ else _) = _
    rw [if_pos (by rw [h4.1, h4.2]; rfl)]
section
variable {ms : List Nat} {bf : List (List Int)} {kind : Nat} {C : CallT} {hp : Hp}
theorem atLot {x : Nat} (hx : x < ms.length) : atIdx (ms.map lotV) (x : Int) = some (.lst ((lotI (ms.getD x 0)).map .int)) := by rw [← lotV_eq]; exact iLot hx
noncomputable def locT (a b l g : V) (o : Option (V × V)) : Loc := (54, .val a) :: (55, .val b) :: (61, .val l) :: (41, .val g) :: @Option.casesOn (V × V) (fun _ => Loc) o [] fun q => [(10, .val q.1), (68, .val q.2)]
noncomputable def tGo1 : List CS := [(.asg (.name 68) (.sortset (.comp false [10] (.idx (.loc 56) (.loc 10)) [((.name 56), (.loc 41), [])]))), (.iff (.boo false (.boo true (.cmp .lt (.loc 54) (.cint 2)) (.cmp .ne (.idx (.loc 61) (.loc 10)) (.loc 68))) (.cmp .ne (.comp false [61, 10] (.loc 4) [((.name 4), (.loc 68), [(.cmp .notin (.loc 4) (.idx (.loc 61) (.loc 10)))])]) (.lst false []))) [(.ret (some (.cbool false)))] [])]
noncomputable def tGo2 : List CS := [(.asg (.name 70) (.comp false [10] (.idx (.loc 56) (.loc 10)) [((.name 56), (.loc 69), [])])), (.iff (.boo false (.cmp .notin (.idx (.idx (.loc 61) (.loc 10)) (.cint 0)) (.loc 70)) (.cmp .notin (.idx (.idx (.loc 61) (.loc 10)) (.neg (.cint 1))) (.loc 70))) [(.ret (some (.cbool false)))] [])]
theorem col (d : Nat) {W : List (List Int)} {x n : Nat} (hW : ∀ p ∈ W, p.length = n) (hx : x < n) : compTop (evD prog C (d + 6)) (.idx (.loc 56) (.loc 10)) (.name 56) [] [] [(10, .val (.int (x : Int)))] (W.map ptV) hp = some ((W.map fun p => p.getD x 0).map .int, hp) := by
  rw [List.map_map]
  refine forItems_map fun p hpb => turn_of rfl ?_
  have hpt := iPt (p := p) (x := x) (by rw [hW p hpb]; exact hx)
  exact run_K hpt (run_done rfl)
theorem tight_go1 (d : Nat) {b : V} (hbl : bf.length ≤ 1000) (hbp : ∀ p ∈ bf, p.length = ms.length ∧ ∀ v ∈ p, 0 ≤ v ∧ v < 4) : ∀ (ks : List Nat) (o : Option (V × V)), (∀ x ∈ ks, x < ms.length ∧ (kind < 2 → lotI (ms.getD x 0) = endsI bf x) ∧ ∀ v ∈ endsI bf x, v ∈ lotI (ms.getD x 0)) → ∃ o',
    forGo (forB (evD prog C (d + 15)) (.name 10) tGo1) (ks.map fun (j : Nat) => .int (j : Int)) (locT (.int (kind : Int)) b (.lst (ms.map lotV)) (ptsV bf) o) hp = some (.next, locT (.int (kind : Int)) b (.lst (ms.map lotV)) (ptsV bf) o', hp)
  | [] => @fun o _ => ⟨o, rfl⟩
  | x :: ks => @fun o hk => by
    obtain ⟨hx, hkind, hsub⟩ := hk x (.head _)
    obtain ⟨o', q⟩ := tight_go1 d (b := b) hbl hbp ks (some (.int (x : Int), .lst ((endsI bf x).map .int))) (fun y m => hk y (.tail _ m))
    refine ⟨o', ?_⟩
    have hc1 := fun d => col (C := C) (hp := hp) d (fun p m => (hbp p m).1) hx
    have hlen := gd_t (show ((bf.map fun p => p.getD x 0).map V.int).length ≤ 4096 by simp; lia)
    have hcond : ((bf.map fun p => p.getD x 0).all (fun i => decide (0 ≤ i ∧ i < 4)) && decide ((bf.map fun p => p.getD x 0).length ≤ 1000)) = true := by
      rw [Bool.and_eq_true, List.all_eq_true]
      refine ⟨fun v hv => ?_, by simp; exact hbl⟩
      obtain ⟨p, hpb, rfl⟩ := List.mem_map.mp hv
      have := (hbp p hpb).2 (p.getD x 0) (by
        rw [List.getD_eq_getElem?_getD, List.getElem?_eq_getElem (by rw [(hbp p hpb).1]; exact hx)]
        exact List.getElem_mem _)
      simpa using this
    have hso : sortsetV ((bf.map fun p => p.getD x 0).map V.int) = some (.lst ((endsI bf x).map .int)) := by
      unfold sortsetV
      rw [intsOf_map]
      exact if_pos hcond
    have hat := atLot hx
    have hc2 : ∀ d, compTop (evD prog C (d + 6)) (.loc 4) (.name 4) [(.cmp .notin (.loc 4) (.idx (.loc 61) (.loc 10)))] [] [(61, .val (.lst (ms.map lotV))), (10, .val (.int (x : Int)))] ((endsI bf x).map .int) hp = some ([], hp) := fun d => by
      refine (forItems_filter (p := fun v => !decide (v ∈ lotI (ms.getD x 0))) (g := V.int) fun v hv => turn_of rfl ?_).trans (by rw [List.filter_eq_nil_iff.mpr fun v m => by rw [decide_eq_true (hsub v m)]; simp]; rfl)
      have hn := notinI v (lotI (ms.getD x 0))
      rw [decide_eq_true (hsub v hv)] at hn ⊢
      exact run_K hat (run_K hn (run_done rfl))
    have hn := cmp_nnil (xs := []) (by decide)
    have hlt := ltI' (kind : Int) ((2 : Nat) : Int)
    have hne := neLs (lotI (ms.getD x 0)) (endsI bf x)
    by_cases hk2 : kind < 2
    · rw [decide_eq_true (by lia)] at hlt
      rw [decide_eq_true (hkind hk2)] at hne
      cases o <;> refine (forGo_next (run_forB rfl ?_)).trans q <;> exact run_K (hc1 _) (run_K hlen (run_K hso (run_K hlt (run_K hat (run_K hne (run_K (hc2 _) (run_K rfl (run_K hn (run_done rfl)))))))))
    · rw [decide_eq_false (by lia)] at hlt
      cases o <;> refine (forGo_next (run_forB rfl ?_)).trans q <;> exact run_K (hc1 _) (run_K hlen (run_K hso (run_K hlt (run_K (hc2 _) (run_K rfl (run_K hn (run_done rfl)))))))
theorem tight_lex_sp (c : Nat) {split : V} (hk : kind < 2) (hml : ms.length ≤ 100) (hbl : bf.length ≤ 1000) (hb0 : bf ≠ []) (hbp : ∀ p ∈ bf, p.length = ms.length ∧ ∀ v ∈ p, 0 ≤ v ∧ v < 4) (ht : ∀ x, x < ms.length → lotI (ms.getD x 0) = endsI bf x) :
    callN prog (c + 1) 41 [.val (.int (kind : Int)), .val split, .val (.lst (ms.map lotV)), .val (ptsV bf)] [] = some (.val (.bool true), []) := by
  obtain ⟨o', q⟩ := tight_go1 (ms := ms) (bf := bf) (kind := kind) (C := callN prog c) (hp := []) 8 (b := split) hbl hbp (List.range ms.length) none
    (fun x m => ⟨List.mem_range.mp m, fun _ => ht x (List.mem_range.mp m), fun v hv => by rw [ht x (List.mem_range.mp m)]; exact hv⟩)
  rw [← rng0] at q
  have hlt := ltI' (kind : Int) ((2 : Nat) : Int)
  rw [decide_eq_true (by lia)] at hlt
  have hb := b_rng0 (n := ms.length) (by lia)
  have hn := cmp_nnil (xs := bf.map ptV) (Nat.le_trans (depL_pts bf) (by decide))
  rw [map_empty, show bf.isEmpty = false by cases bf with | nil => exact absurd rfl hb0 | cons => rfl] at hn
  refine run_fnT (fd := f_law_is_tight) rfl rfl rfl ?_
  cases o' <;> exact run_V b_lenM (run_V hb (run_V q (run_V hlt (run_V hn (run_d rfl)))))
theorem fold_len : ∀ {lots : List (List Int)} {found : List (List Int)} {n : Nat}, (∀ l ∈ lots, l.length ≤ 4) → (∀ p ∈ found, p.length = n) → (lots.foldl nextPts found).length ≤ found.length * 4 ^ lots.length ∧ ∀ p ∈ lots.foldl nextPts found, p.length = n + lots.length
  | [], found, n => @fun _ hp => ⟨by simp, fun p m => by simpa using hp p m⟩
  | l :: lots, found, n => @fun h hp => by
    have h1 := nextPts_len (found := found) (h l (.head _))
    have h2 : ∀ p ∈ nextPts found l, p.length = n + 1 := fun p m => by
      obtain ⟨q, hq, m⟩ := List.mem_flatMap.mp m
      obtain ⟨v, hv, rfl⟩ := List.mem_map.mp m
      simp [hp q hq]
    obtain ⟨a, b⟩ := fold_len (lots := lots) (found := nextPts found l) (n := n + 1) (fun l m => h l (.tail _ m)) h2
    refine ⟨?_, fun p m => by rw [b p m]; simp; lia⟩
    have : found.length * 4 ^ (lots.length + 1) = found.length * 4 * 4 ^ lots.length := by rw [Nat.pow_succ, Nat.mul_assoc, Nat.mul_comm 4]
    show _ ≤ found.length * 4 ^ (lots.length + 1)
    rw [this]
    exact Nat.le_trans a (Nat.mul_le_mul_right _ h1)
theorem pointsI_len {lots : List (List Int)} (h : ∀ l ∈ lots, l.length ≤ 4) (h4 : lots.length ≤ 4) : (pointsI lots).length ≤ 256 ∧ ∀ p ∈ pointsI lots, p.length = lots.length := by
  obtain ⟨a, b⟩ := fold_len (lots := lots) (found := [[]]) (n := 0) h (fun p m => by simp at m; subst m; rfl)
  refine ⟨Nat.le_trans a ?_, fun p m => by rw [b p m]; simp⟩
  have : 4 ^ lots.length ≤ 4 ^ 4 := Nat.pow_le_pow_right (by decide) h4
  simp; lia
inductive LU where
  | n0
  | n1 (x y : V)
  | n2 (x y : V)
  | n3 (x y z : V)
noncomputable def locV (a b l g w : V) (o : LU) : Loc := (54, .val a) :: (55, .val b) :: (61, .val l) :: (41, .val g) :: @LU.casesOn (fun _ => Loc) o [(69, .val w)] (fun x y => [(10, .val x), (68, .val y), (69, .val w)]) (fun x y => [(69, .val w), (10, .val x), (70, .val y)]) fun x y z => [(10, .val x), (68, .val y), (69, .val w), (70, .val z)]
theorem tight_go2 (d : Nat) {a b g : V} {W : List (List Int)} (hWl : W.length ≤ 1000) (hWp : ∀ p ∈ W, p.length = ms.length) (hm : ∀ m ∈ ms, m < 16 ∧ m ≠ 0) : ∀ (ks : List Nat) (o : LU), (∀ x ∈ ks, x < ms.length ∧ loM (ms.getD x 0) ∈ W.map (fun p => p.getD x 0) ∧ hiM (ms.getD x 0) ∈ W.map (fun p => p.getD x 0)) → ∃ o',
    forGo (forB (evD prog C (d + 15)) (.name 10) tGo2) (ks.map fun (j : Nat) => .int (j : Int)) (locV a b (.lst (ms.map lotV)) g (ptsV W) o) hp = some (.next, locV a b (.lst (ms.map lotV)) g (ptsV W) o', hp)
  | [] => @fun o _ => ⟨o, rfl⟩
  | x :: ks => @fun o hk => by
    obtain ⟨hx, h1, h2⟩ := hk x (.head _)
    have hc1 := fun d => col (C := C) (hp := hp) d hWp hx
    have hlen := gd_t (show ((W.map fun p => p.getD x 0).map V.int).length ≤ 4096 by simp; lia)
    have hat := atLot hx
    have hmx := hm (ms.getD x 0) (by rw [List.getD_eq_getElem?_getD, List.getElem?_eq_getElem hx]; exact List.getElem_mem hx)
    obtain ⟨b1, b2, _⟩ := bnd hmx.1 hmx.2
    have n1 := notinI (loM (ms.getD x 0)) (W.map fun p => p.getD x 0)
    have n2 := notinI (hiM (ms.getD x 0)) (W.map fun p => p.getD x 0)
    rw [decide_eq_true h1] at n1
    rw [decide_eq_true h2] at n2
    obtain ⟨o', q⟩ := tight_go2 d (a := a) (b := b) (g := g) hWl hWp hm ks (@LU.casesOn (fun _ => LU) o (.n2 (.int (x : Int)) (.lst ((W.map fun p => p.getD x 0).map .int))) (fun _ y => .n3 (.int (x : Int)) y (.lst ((W.map fun p => p.getD x 0).map .int))) (fun _ _ => .n2 (.int (x : Int)) (.lst ((W.map fun p => p.getD x 0).map .int))) fun _ y _ => .n3 (.int (x : Int)) y (.lst ((W.map fun p => p.getD x 0).map .int))) (fun y m => hk y (.tail _ m))
    refine ⟨o', ?_⟩
    rcases o with _ | _ <;> refine (forGo_next (run_forB rfl ?_)).trans q <;> exact run_K (hc1 _) (run_K hlen (run_K hat (run_K b1 (run_K n1 (run_K hat (run_K b2 (run_K n2 (run_done rfl))))))))
theorem tight_inc_sp (c : Nat) {split : Nat} (hml : ms.length ≤ 4) (hm : ∀ m ∈ ms, m < 16 ∧ m ≠ 0) (hbl : bf.length ≤ 1000) (hbp : ∀ p ∈ bf, p.length = ms.length ∧ ∀ v ∈ p, 0 ≤ v ∧ v < 4) (ht : ∀ x, x < ms.length → ∀ v ∈ endsI bf x, v ∈ lotI (ms.getD x 0))
    (hw : ∀ x, x < ms.length → loM (ms.getD x 0) ∈ ((pointsI (ms.map rangeI)).filter (keepsI 2 0)).map (fun p => p.getD x 0) ∧ hiM (ms.getD x 0) ∈ ((pointsI (ms.map rangeI)).filter (keepsI 2 0)).map (fun p => p.getD x 0)) :
    callN prog (c + 2) 41 [.val (.int ((2 : Nat) : Int)), .val (.int (split : Int)), .val (.lst (ms.map lotV)), .val (ptsV bf)] [] = some (.val (.bool true), []) := by
  obtain ⟨o', q⟩ := tight_go1 (ms := ms) (bf := bf) (kind := 2) (C := callN prog (c + 1)) (hp := []) 8 (b := .int (split : Int)) hbl hbp (List.range ms.length) none
    (fun x m => ⟨List.mem_range.mp m, fun h => absurd h (by decide), ht x (List.mem_range.mp m)⟩)
  rw [← rng0] at q
  have hlt := ltI' ((2 : Nat) : Int) ((2 : Nat) : Int)
  rw [decide_eq_false (by lia)] at hlt
  have hb := b_rng0 (n := ms.length) (by lia)
  have hr4 : ∀ l ∈ ms.map rangeI, l.length ≤ 4 := fun l m => by
    obtain ⟨x, hx, rfl⟩ := List.mem_map.mp m
    exact (bnd (hm x hx).1 (hm x hx).2).2.2.2.2
  have hc1 : ∀ d, compTop (evD prog (callN prog (c + 1)) (d + 6)) (.blt .range [(.idx (.loc 62) (.cint 0)), (.bin .add (.idx (.loc 62) (.neg (.cint 1))) (.cint 1))]) (.name 62) [] [] [] (ms.map lotV) [] = some (ms.map fun m => V.rng (loM m) (hiM m + ((1 : Nat) : Int)) 1, []) := fun d => by
    refine forItems_map fun m hmm => ?_
    obtain ⟨b1, b2, b3, b4, b5⟩ := bnd (hm m hmm).1 (hm m hmm).2
    rw [lotV_eq]
    refine turn_of rfl ?_
    exact run_K b1 (run_K b2 (run_K addI (run_K b4 (run_done rfl))))
  have hlen1 := gd_t (show (ms.map fun m => V.rng (loM m) (hiM m + ((1 : Nat) : Int)) 1).length ≤ 4096 by simp; lia)
  have hP := points_sp c (lvs := ms.map fun m => V.rng (loM m) (hiM m + ((1 : Nat) : Int)) 1) (lots := ms.map rangeI) (by simp) (fun i lv l a b => by
    rw [List.getElem?_map] at a b
    induction hmi : ms[i]? with
    | none => rw [hmi] at a; exact nS a
    | some m =>
      rw [hmi] at a b
      obtain rfl := Option.some.inj a; obtain rfl := Option.some.inj b
      have hmm := hm m (List.mem_of_getElem? hmi)
      obtain ⟨b1, b2, b3, b4, b5⟩ := bnd hmm.1 hmm.2
      exact ⟨by show some (rngItems _ _ _) = _; rw [b3], b5⟩) (by simpa using hml)
  obtain ⟨hpl, hpp⟩ := pointsI_len hr4 (by simpa using hml)
  have hc2 : ∀ d, compTop (evD prog (callN prog (c + 1)) (d + 6)) (.loc 56) (.name 56) [(.call 33 [(.loc 54), (.loc 55), (.loc 56)])] [] [(54, .val (.int ((2 : Nat) : Int))), (55, .val (.int (split : Int)))] ((pointsI (ms.map rangeI)).map ptV) [] = some (((pointsI (ms.map rangeI)).filter (keepsI 2 0)).map ptV, []) := fun d => by
    refine forItems_filter fun p hp => turn_of rfl ?_
    have hk := keeps2_sp c (split := .int (split : Int)) (p := p) (by rw [hpp p hp, List.length_map]; lia)
    induction z : keepsI 2 0 p with
    | false =>
      rw [z] at hk
      exact run_K hk (run_done rfl)
    | true =>
      rw [z] at hk
      exact run_K hk (run_done rfl)
  have hWl : ((pointsI (ms.map rangeI)).filter (keepsI 2 0)).length ≤ 256 := Nat.le_trans (List.length_filter_le _ _) hpl
  have hlen2 := gd_t (show (((pointsI (ms.map rangeI)).filter (keepsI 2 0)).map ptV).length ≤ 4096 by rw [List.length_map]; lia)
  obtain ⟨o2, q2⟩ := tight_go2 (ms := ms) (C := callN prog (c + 1)) (hp := []) 8 (a := .int ((2 : Nat) : Int)) (b := .int (split : Int)) (g := ptsV bf) (W := (pointsI (ms.map rangeI)).filter (keepsI 2 0)) (by lia) (fun p m => by rw [hpp p (List.mem_filter.mp m).1, List.length_map]) hm (List.range ms.length) (@Option.casesOn (V × V) (fun _ => LU) o' .n0 fun q => .n1 q.1 q.2)
    (fun x m => ⟨List.mem_range.mp m, hw x (List.mem_range.mp m)⟩)
  rw [← rng0] at q2
  refine run_fnT (fd := f_law_is_tight) rfl rfl rfl ?_
  cases o' <;> rcases o2 with _ | _ <;> exact run_V b_lenM (run_V hb (run_V q (run_V hlt (run_V (hc1 _) (run_V hlen1 (run_V hP (run_V (hc2 _) (run_V hlen2 (run_V b_lenM (run_V hb (run_V q2 (run_d rfl))))))))))))
end
end Mine.Internal.P
namespace Mine.Internal.P
noncomputable def restore : List Ent → List Nat → List Nat
  | [], ms => ms
  | e :: r, ms => (restore r ms).set e.x e.m
theorem restore_snoc : ∀ {tr : List Ent} {e : Ent} {ms : List Nat}, restore (tr ++ [e]) ms = restore tr (ms.set e.x e.m)
  | [], e, ms => rfl
  | a :: tr, e, ms => by simp only [List.cons_append, restore, restore_snoc]
theorem restore_len : ∀ {tr : List Ent} {ms : List Nat}, (restore tr ms).length = ms.length
  | [], ms => rfl
  | e :: r, ms => by simp [restore, restore_len]
noncomputable def GH (fs : List (Nat × RV)) (d f t m : List V) (n : Nat) (r : Hp) : Hp := .inst 0 fs :: .mlst d :: .mlst f :: .mlst t :: .mlst m :: .idict n :: r
noncomputable def gfs (fl : Bool) (cl : V) : List (Nat × RV) := [(14, .ref 1), (15, .ref 2), (16, .ref 3), (17, .val (.lst [])), (18, .ref 5), (19, .val (.int (-1))), (20, .val (.bool fl)), (21, .val cl)]
noncomputable def locQ (o : Option V) : Loc := (13, .ref 0) :: (28, .val (.int ((1 : Nat) : Int))) :: (29, .val (.int 0)) :: @Option.casesOn V (fun _ => Loc) o [] fun v => [(30, .val v)]
theorem whG_0 {B : Loc → Hp → Option (Bool × Hp)} {S : Loc → Hp → Option (Out × Loc × Hp)} {n : Nat} {loc : Loc} {hp hp' : Hp} (h : B loc hp = some (false, hp')) : whileGo B S (n + 1) loc hp = some (.next, loc, hp') := by
  show obn (B loc hp) _ = _
  rw [h, obn_eq]
  rfl
theorem whG_1 {B : Loc → Hp → Option (Bool × Hp)} {S : Loc → Hp → Option (Out × Loc × Hp)} {n : Nat} {loc l : Loc} {hp hp1 hp2 : Hp} (h : B loc hp = some (true, hp1)) (h2 : S loc hp1 = some (.next, l, hp2)) : whileGo B S (n + 1) loc hp = whileGo B S n l hp2 := by
  show obn (B loc hp) _ = _
  rw [h, obn_eq]
  show obs (S loc hp1) _ = _
  rw [h2, obs_eq]
  rfl
theorem pop_go {C : CallT} (k : Nat) {fl : Bool} {cl : V} {f m : List V} {n : Nat} {r : Hp} : ∀ (q : Nat) (tr : List Ent) (ms : List Nat) (o : Option V), tr.length < q → (∀ e ∈ tr, e.x < ms.length) → ∃ o',
    whileGo (fun l h => (evD prog C (k + 12)).B l h (.cmp .gt (.blt .len [(.attr (.loc 13) 16)]) (.loc 29))) (fun l h => block (evD prog C (k + 12)).S [(.asg (.name 30) (.popl (.attr (.loc 13) 16))), (.asg (.idx (.attr (.loc 13) 14) (.idx (.loc 30) (.cint 0))) (.idx (.loc 30) (.cint 1)))] l h) q (locQ o) (GH (gfs fl cl) (ms.map domV) f (tr.map Ent.v) m n r) =
      some (.next, locQ o', GH (gfs fl cl) ((restore tr ms).map domV) f [] m n r)
  | 0 => @fun tr ms o h _ => absurd h (Nat.not_lt_zero _)
  | q + 1 => @fun tr ms o h hx => by
    have hg := gtI (tr.length : Int) 0
    have hB : ∀ b, cmpV .gt (.int (tr.length : Int)) (.int 0) = some b → (evD prog C (k + 12)).B (locQ o) (GH (gfs fl cl) (ms.map domV) f (tr.map Ent.v) m n r) (.cmp .gt (.blt .len [(.attr (.loc 13) 16)]) (.loc 29)) = some (b, GH (gfs fl cl) (ms.map domV) f (tr.map Ent.v) m n r) := fun b hb => run_B (by
      rcases o with _ | _ <;> exact run_K b_lenM (run_K hb (run_done rfl)))
    rcases List.eq_nil_or_concat tr with rfl | ⟨tr', e, rfl⟩
    · refine ⟨o, ?_⟩
      exact whG_0 (hB false hg)
    · rw [List.concat_eq_append] at hg h hx hB ⊢
      have hpos : ((tr' ++ [e]).length : Int) > 0 := by simp only [List.length_append, List.length_cons, List.length_nil]; lia
      rw [decide_eq_true hpos] at hg
      obtain ⟨o', q1⟩ := pop_go (C := C) k (fl := fl) (cl := cl) (f := f) (m := m) (n := n) (r := r) q tr' (ms.set e.x e.m) (some e.v) (by simp at h; lia) (fun a b => by rw [List.length_set]; exact hx a (by simp [b]))
      refine ⟨o', ?_⟩
      have hlast : ((tr' ++ [e]).map Ent.v).getLast? = some e.v := by simp
      have hdrop : ((tr' ++ [e]).map Ent.v).dropLast = tr'.map Ent.v := by simp
      have hp : posIdx (ms.map domV).length (e.x : Int) = some e.x := posIdx_nat (by rw [List.length_map]; exact hx e (by simp))
      rw [restore_snoc]
      refine (whG_1 (hB true hg) (run_blk ?_)).trans q1
      rw [← hdrop, List.map_set]
      rcases o with _ | _ <;> exact run_K hlast (run_K rfl (run_K rfl (run_K hp (run_done rfl))))
theorem memV_dom0 : ∀ {F : List Nat}, (∀ m ∈ F, m < 16 ∧ m ≠ 0) → memV (.tup []) (F.map domV) = false
  | [] => @fun _ => rfl
  | m :: F => @fun h => by
    have hm := h m (.head _)
    have e := (eq_at hm.1 (by decide : 0 < 16)).1
    rw [dom0, decide_eq_false hm.2] at e
    have ih := memV_dom0 (F := F) fun m mm => h m (.tail _ mm)
    show (eqV (domV m) (.tup []) || memV (.tup []) (F.map domV)) = false
    rw [e, ih]; rfl
theorem depL_dom : ∀ {F : List Nat}, (∀ m ∈ F, m < 16 ∧ m ≠ 0) → depL (F.map domV) ≤ 2
  | [] => @fun _ => by simp [depL]
  | m :: F => @fun h => by
    have := (eq_at (h m (.head _)).1 (by decide : 0 < 16)).2.2.1
    have := depL_dom (F := F) fun m mm => h m (.tail _ mm)
    simp only [List.map_cons, depL]; lia
theorem in_dom0 {F : List Nat} (h : ∀ m ∈ F, m < 16 ∧ m ≠ 0) : cmpV .inn (.tup []) (.lst (F.map domV)) = some false := by
  have := depL_dom h
  show (if depV (.tup []) ≤ 8 ∧ depL (F.map domV) ≤ 8 then some (memV (.tup []) (F.map domV)) else none) = _
  rw [if_pos ⟨by decide, by lia⟩, memV_dom0 h]
noncomputable def pfs (j : Nat) : List (Nat × RV) := [(14, .ref 1), (15, .ref 2), (16, .ref 3), (17, .val (.lst [])), (18, .ref j), (19, .val (.int (-1))), (20, .val (.bool false)), (21, .val (.tup []))]
theorem pop_sp (c : Nat) {F : List Nat} (hF : ∀ m ∈ F, m < 16 ∧ m ≠ 0) {st : St} (ht : st.tr.length ≤ 40) (hx : ∀ e ∈ st.tr, e.x < st.ms.length) {rest : Hp} :
    callN prog (c + 1) 21 [.ref 0, .val (.int ((1 : Nat) : Int))] (hpOf (F.map domV) [.int 0] rest st) = some (.val .none, GH (pfs (rest.length + 6)) ((restore st.tr st.ms).map domV) (F.map domV) [] [.int 0] st.n (rest ++ [.idict 0])) := by
  have h1 := ltI' ((1 : Nat) : Int) ((1 : Nat) : Int)
  rw [decide_eq_false (by lia)] at h1
  obtain ⟨o', q⟩ := pop_go (C := callN prog c) 11 (fl := st.failed) (cl := .tup (st.clash.map Lit.v)) (f := F.map domV) (m := [.int 0]) (n := st.n) (r := rest) 64 st.tr st.ms none (by lia) hx
  have hin := in_dom0 hF
  refine run_fnT (fd := f_Store_pop) rfl rfl rfl ?_
  cases o' <;> exact run_V h1 (run_V rfl (run_V rfl (run_V rfl (run_V rfl (run_V rfl (run_V rfl (run_V rfl (run_V q (run_V rfl (run_V hin (run_V rfl (run_V rfl (run_d rfl)))))))))))))
end Mine.Internal.P
namespace Mine.Internal.P
theorem keepsK_sp (c : Nat) {kind split : Nat} {p : List Int} (hk : kind ≤ 2) (hp : p.length ≤ 100) (hs : split ≤ 100) : callN prog (c + 1) 33 [.val (.int (kind : Int)), .val (.int (split : Int)), .val (ptV p)] [] = some (.val (.bool (keepsI kind split p)), []) := by
  by_cases h : kind = 2
  · subst h
    rw [keeps2_sp c hp]
    rfl
  · exact keeps_sp c (by lia) hp hs
structure RuleOk (kind split many kls fck fpr : Nat) (rf : List (Nat × RV)) (pass : St → Bool × St) : Prop where
  hk : kind ≤ 2
  hs : split ≤ 2
  hm : many ≤ 4
  pl : Plain (.inst kls rf)
  l76 : lookupL 76 rf = none
  l83 : lookupL 83 rf = none
  m76 : prog.meth kls 76 = some fck
  m83 : prog.meth kls 83 = some fpr
  ck : ∀ fi ma x r st p, p.length = many → callN prog 8 fck [.ref 7, .val (ptV p)] (hpOf fi ma (x :: .inst kls rf :: r) st) = some (.val (.bool (keepsI kind split p)), hpOf fi ma (x :: .inst kls rf :: r) st)
  pr : ∀ fi ma x ext st, Plain x → (∀ o ∈ ext, Plain o) → Okk st → st.ms.length = many → callN prog 8 fpr [.ref 7, .ref 0] (hpOf fi ma (x :: .inst kls rf :: ext) st) = some (.val (.bool (propS pass 63 st).1), hpOf fi ma (x :: .inst kls rf :: ext) (propS pass 63 st).2)
  told : ∀ fi ma L st, callN prog 8 42 [.ref 7, .val (.int (kind : Int)), .val (.int (split : Int)), .val (.int (many : Int))] (hpOf fi ma [.flst L, .inst kls rf] st) = some (.val (.bool true), hpOf fi ma [.flst L, .inst kls rf] st)
noncomputable def goodI (F : List Nat) (kind split : Nat) : List (List Int) := (pointsI (F.map lotI)).filter (keepsI kind split)
theorem lots_pts {F : List Nat} (h4 : F.length ≤ 4) : callN prog 8 36 [.val (.lst (F.map lotV))] [] = some (.val (ptsV (pointsI (F.map lotI))), []) := by
  refine points_sp 7 (by simp) (fun i lv l a b => ?_) (by simpa using h4)
  rw [List.getElem?_map] at a b
  induction hmi : F[i]? with
  | none => rw [hmi] at a; exact nS a
  | some m =>
    rw [hmi] at a b
    obtain rfl := Option.some.inj a; obtain rfl := Option.some.inj b
    exact ⟨by rw [lotV_eq]; rfl, lotI_len⟩
theorem lots_len {F : List Nat} (h4 : F.length ≤ 4) : (pointsI (F.map lotI)).length ≤ 256 ∧ ∀ p ∈ pointsI (F.map lotI), p.length = F.length := by
  obtain ⟨a, b⟩ := pointsI_len (lots := F.map lotI) (fun l m => by obtain ⟨x, _, rfl⟩ := List.mem_map.mp m; exact lotI_len) (by simpa using h4)
  exact ⟨a, fun p m => by rw [b p m]; simp⟩
theorem good_len {F : List Nat} {kind split : Nat} (h4 : F.length ≤ 4) : (goodI F kind split).length ≤ 256 ∧ ∀ p ∈ goodI F kind split, p.length = F.length := by
  obtain ⟨a, b⟩ := lots_len h4
  exact ⟨Nat.le_trans (List.length_filter_le _ _) a, fun p m => b p (List.mem_filter.mp m).1⟩
noncomputable def lawS (n : Nat) : CS := f_law.body.getD n (.ret none)
noncomputable def S8 (loc : Loc) (hp : Hp) (n : Nat) : Option (Out × Loc × Hp) := (evD prog (callN prog 8) 24).S loc hp (lawS n)
noncomputable def blkL (n : Nat) (loc : Loc) (hp : Hp) : Option (Out × Loc × Hp) := block (evD prog (callN prog 8) 24).S (f_law.body.drop n) loc hp
theorem at_ (n : Nat) (hn : n < 21) {loc l : Loc} {hp h : Hp} {X} (s : S8 loc hp n = some (.next, l, h)) (r : blkL (n + 1) l h = X) : blkL n loc hp = X := by
  unfold blkL
  rw [List.drop_eq_getElem_cons (show n < f_law.body.length from hn)]
  show obs _ _ = _
  rw [show f_law.body[n]'(show n < f_law.body.length from hn) = lawS n by unfold lawS; rw [List.getD_eq_getElem?_getD, List.getElem?_eq_getElem (show n < f_law.body.length from hn)]; rfl]
  rw [show (evD prog (callN prog 8) 24).S loc hp (lawS n) = some (.next, l, h) from s, obs_eq]
  exact r
noncomputable def LL (p c w u1 u2 xs ys : V) (kind split many : Nat) (t : Loc) : Loc :=
  (73, .val p) :: (74, .val c) :: (54, .val (.int (kind : Int))) :: (55, .val (.int (split : Int))) :: (38, .val (.int (many : Int))) :: (63, .ref 0) :: (51, .ref 6) :: (69, .val w) :: (1, .val u1) :: (62, .val u2) :: (34, .val xs) :: (35, .val ys) :: (71, .ref 7) :: t
noncomputable def T2 (g : V) (o : Option (V × V)) (t : Loc) : Loc := (67, .val g) :: @Option.casesOn (V × V) (fun _ => Loc) o t fun q => (78, .val q.1) :: (9, .val q.2) :: t
theorem mth_of {P : Prog} {c m f : Nat} {fs : List (Nat × RV)} (h : lookupL m fs = none) (g : P.meth c m = some f) : mth P c m fs = some f := by
  unfold mth
  rw [h]
  exact g
section
variable {F : List Nat} {kind split many kls fck fpr : Nat} {rf : List (Nat × RV)} {pass : St → Bool × St} {fi ma : List V} {ext : Hp} {st : St} {p c w u1 u2 xs ys : V}
theorem keptOf (ro : RuleOk kind split many kls fck fpr rf pass) {P : List (List Int)} (hp : ∀ q ∈ P, q.length ≤ 4) (d : Nat) (hpp : Hp) : compTop (evD prog (callN prog 8) (d + 10)) (.loc 56) (.name 56) [(.call 33 [(.loc 54), (.loc 55), (.loc 56)])] [] [(54, .val (.int (kind : Int))), (55, .val (.int (split : Int)))] (P.map ptV) hpp = some ((P.filter (keepsI kind split)).map ptV, hpp) := by
  refine forItems_filter fun q hq => turn_of rfl ?_
  have hk := keepsK_sp 7 (kind := kind) (split := split) (p := q) ro.hk (by have := hp q hq; lia) (by have := ro.hs; lia)
  induction z : keepsI kind split q with
  | false =>
    rw [z] at hk
    exact run_K hk (run_done rfl)
  | true =>
    rw [z] at hk
    exact run_K hk (run_done rfl)
theorem s_good (ro : RuleOk kind split many kls fck fpr rf pass) (hF : F.length ≤ 4) :
    S8 ((LL p c w u1 u2 xs ys kind split many) []) (hpOf fi ma (.mlst (F.map lotV) :: ext) st) 7 = some (.next, (LL p c w u1 u2 xs ys kind split many) [(67, .val (ptsV (goodI F kind split)))], hpOf fi ma (.flst (F.map lotV) :: ext) st) := by
  have hP := lots_pts hF
  obtain ⟨hl, hp⟩ := lots_len hF
  have hc := keptOf ro (P := pointsI (F.map lotI)) fun q m => by rw [hp q m]; exact hF
  have hlen := gd_t (show ((goodI F kind split).map ptV).length ≤ 4096 by rw [List.length_map]; have := (good_len (kind := kind) (split := split) hF).1; lia)
  refine run_S ?_
  exact run_K hP (run_K (hc _ _) (run_K hlen (run_done rfl)))
theorem s_check (ro : RuleOk kind split many kls fck fpr rf pass) (hF : F.length ≤ 4) (hmF : F.length = many) {g : V} :
    S8 ((LL p c w u1 u2 xs ys kind split many) [(67, .val g)]) (hpOf fi ma (.flst (F.map lotV) :: (HObj.inst kls rf) :: ext) st) 8 = some (.next, (LL p c w u1 u2 xs ys kind split many) [(67, .val g)], hpOf fi ma (.flst (F.map lotV) :: (HObj.inst kls rf) :: ext) st) := by
  have hP := lots_pts hF
  obtain ⟨hl, hp⟩ := lots_len hF
  have hc : ∀ d, compTop (evD prog (callN prog 8) (d + 10)) (.loc 56) (.name 56) [(.cmp .ne (.meth (.loc 71) 76 [(.loc 56)]) (.call 33 [(.loc 54), (.loc 55), (.loc 56)]))] [] [(54, .val (.int (kind : Int))), (55, .val (.int (split : Int))), (71, .ref 7)] ((pointsI (F.map lotI)).map ptV) (hpOf fi ma (.flst (F.map lotV) :: (HObj.inst kls rf) :: ext) st) = some ([], hpOf fi ma (.flst (F.map lotV) :: (HObj.inst kls rf) :: ext) st) := fun d => by
    refine (forItems_filter (p := fun _ => false) (g := ptV) fun q hpm => turn_of rfl ?_).trans (by rw [List.filter_eq_nil_iff.mpr (fun _ _ => by simp)]; rfl)
    have hk := keepsK_sp 7 (kind := kind) (split := split) (p := q) ro.hk (by rw [hp q hpm]; lia) (by have := ro.hs; lia)
    have hm := mth_of (P := prog) ro.l76 ro.m76
    have hck := amS (ro.ck fi ma (.flst (F.map lotV)) ext st q (by rw [hp q hpm]; exact hmF))
    have hne : cmpV .ne (.bool (keepsI kind split q)) (.bool (keepsI kind split q)) = some false := by
      cases keepsI kind split q <;> rfl
    exact run_K hm (run_K hck (run_K hk (run_K hne (run_done rfl))))
  have hn := cmp_nnil (xs := []) (by decide)
  refine run_S ?_
  exact run_K hP (run_K (hc _) (run_K rfl (run_K hn (run_done rfl))))
theorem s_told (ro : RuleOk kind split many kls fck fpr rf pass) {g : V} :
    S8 ((LL p c w u1 u2 xs ys kind split many) [(67, .val g)]) (hpOf fi ma [.flst (F.map lotV), (HObj.inst kls rf)] st) 9 = some (.next, (LL p c w u1 u2 xs ys kind split many) [(67, .val g)], hpOf fi ma [.flst (F.map lotV), (HObj.inst kls rf)] st) := by
  have ht := amS (ro.told fi ma (F.map lotV) st)
  refine run_S ?_
  exact run_K ht (run_done rfl)
theorem s_push {g : V} (hma : ma.length < 4096) :
    S8 ((LL p c w u1 u2 xs ys kind split many) [(67, .val g)]) (hpOf fi ma ext st) 10 = some (.next, (LL p c w u1 u2 xs ys kind split many) [(67, .val g)], hpOf fi (ma ++ [.int (st.tr.length : Int)]) ext st) := by
  have h := amS (push_sp 7 (fi := fi) (ma := ma) (rest := ext) (st := st) hma)
  refine run_S ?_
  exact run_K rfl (run_K h (run_done rfl))
noncomputable def sgOf (n : Nat) : Nat := [3, 0, 1, 2].getD (n / 4 % 4) 0
noncomputable def cellLit (many n : Nat) : Lit := ⟨n % many, sgOf n, ((n / 16 % 4 : Nat) : Int)⟩
noncomputable def decS (many n : Nat) (st : St) : St := if n ≠ 0 ∧ saidI (st.ms.getD (cellLit many n).x 0) (cellLit many n).sg (cellLit many n).k = 0 then (enterS st (cellLit many n) none).2 else st
theorem sgOf_lt (n : Nat) : sgOf n < 4 := by
  unfold sgOf
  have : n / 4 % 4 < 4 := Nat.mod_lt _ (by decide)
  match n / 4 % 4, this with
  | 0, _ => decide
  | 1, _ => decide
  | 2, _ => decide
  | 3, _ => decide
  | k + 4, h => exact absurd h (by lia)
theorem cellLit_ok {many n : Nat} (hm : 0 < many) : (cellLit many n).ok many := by
  refine ⟨Nat.mod_lt _ hm, sgOf_lt n, ?_, ?_⟩
  · show -3 ≤ ((n / 16 % 4 : Nat) : Int); lia
  · show ((n / 16 % 4 : Nat) : Int) ≤ 6; lia
theorem said_zero {m sg : Nat} {k : Int} (h : saidI m sg k = 0) : strikeM m sg k ≠ m ∧ strikeM m sg k ≠ 0 := by
  unfold saidI at h
  split at h
  · cases h
  · rename_i h1
    split at h
    · injection h
    · rename_i h2; exact ⟨h1, h2⟩
theorem dec_ok {many n : Nat} {st : St} (hm : 0 < many) (hl : st.ms.length = many) (o : Okk st) : Okk (decS many n st) ∧ (decS many n st).ms.length = many := by
  unfold decS
  split
  · rename_i h
    have hok : (cellLit many n).ok st.ms.length := by rw [hl]; exact cellLit_ok hm
    obtain ⟨h1, h2⟩ := said_zero h.2
    refine ⟨enter_ok o hok ?_, by rw [enter_len, hl]⟩
    unfold enterS
    dsimp only
    rw [if_neg h2, if_neg h1]
  · exact ⟨o, hl⟩
theorem modI (a b : Nat) (h : 0 < b) : binV .mod (.int (a : Int)) (.int (b : Int)) = some (.int ((a % b : Nat) : Int)) := by
  show (if 0 < (b : Int) then some (V.int (Int.fmod (a : Int) (b : Int))) else none) = _
  rw [if_pos (by lia), Int.fmod_eq_emod_of_nonneg _ (by lia)]
  rfl
theorem divI (a b : Nat) (h : 0 < b) (h' : b < 1000) : binV .fdiv (.int (a : Int)) (.int (b : Int)) = some (.int ((a / b : Nat) : Int)) := by
  show (if 0 < (b : Int) ∧ (b : Int).natAbs < 1073741824 then some (V.int (Int.fdiv (a : Int) (b : Int))) else none) = _
  rw [if_pos ⟨by lia, by simp; lia⟩, Int.fdiv_eq_ediv_of_nonneg _ (by lia)]
  rfl
theorem sgIdx (n : Nat) : atIdx [.str 3, .str 0, .str 1, .str 2] ((n / 4 % 4 : Nat) : Int) = some (.str (sgOf n)) := by
  rw [atIdx_nat]
  unfold sgOf
  have : n / 4 % 4 < 4 := Nat.mod_lt _ (by decide)
  match n / 4 % 4, this with
  | 0, _ => rfl
  | 1, _ => rfl
  | 2, _ => rfl
  | 3, _ => rfl
  | k + 4, h => exact absurd h (by lia)
noncomputable def decB : List CS := [(.asg (.name 9) (.tup [(.bin .mod (.loc 78) (.loc 38)), (.idx (.lst false [(.cstr 3), (.cstr 0), (.cstr 1), (.cstr 2)]) (.bin .mod (.bin .fdiv (.loc 78) (.cint 4)) (.cint 4))), (.bin .mod (.bin .fdiv (.loc 78) (.cint 16)) (.cint 4))])), (.iff (.boo true (.cmp .ne (.loc 78) (.cint 0)) (.cmp .eq (.meth (.loc 63) 79 [(.loc 9)]) (.cint 0))) [(.ex (.meth (.loc 63) 80 [(.loc 9)]))] [])]
theorem s_dec (d : Nat) {g : V} (hm : 0 < many) (hm4 : many ≤ 4) : ∀ (cs : List Nat) (st : St) (o : Option (V × V)), Okk st → st.ms.length = many → ∃ o',
    forGo (forB (evD prog (callN prog 8) (d + 12)) (.name 78) decB) (cs.map fun (n : Nat) => .int (n : Int)) ((LL p c w u1 u2 xs ys kind split many) (T2 g o [])) (hpOf fi ma ext st) = some (.next, (LL p c w u1 u2 xs ys kind split many) (T2 g o' []), hpOf fi ma ext (cs.foldl (fun s n => decS many n s) st))
  | [] => @fun st o _ _ => ⟨o, rfl⟩
  | n :: cs => @fun st o ok hl => by
    obtain ⟨ok', hl'⟩ := dec_ok (n := n) hm hl ok
    obtain ⟨o', q⟩ := s_dec d (g := g) hm hm4 cs (decS many n st) (some (.int (n : Int), (cellLit many n).v)) ok' hl'
    refine ⟨o', ?_⟩
    have hok : (cellLit many n).ok st.ms.length := by rw [hl]; exact cellLit_ok hm
    have hh := amS (holds_sp 3 (fi := fi) (ma := ma) (rest := ext) ok.ok hok)
    have hd := amS (decide_sp 3 (fi := fi) (ma := ma) (rest := ext) ok.ok hok)
    have a1 := modI n many hm
    have a2 := divI n 4 (by decide) (by decide)
    have a3 := modI (n / 4) 4 (by decide)
    have a4 := divI n 16 (by decide) (by decide)
    have a5 := modI (n / 16) 4 (by decide)
    have a6 := sgIdx n
    have hne := neI (n : Int) ((0 : Nat) : Int)
    have heq := eqI (saidI (st.ms.getD (cellLit many n).x 0) (cellLit many n).sg (cellLit many n).k) ((0 : Nat) : Int)
    by_cases c1 : n = 0
    · rw [decide_eq_true (by lia)] at hne
      have e : decS many n st = st := if_neg (fun h => h.1 c1)
      cases o <;> refine (forGo_next (run_forB rfl ?_)).trans q <;> rw [e] <;> exact run_K a1 (run_K a2 (run_K a3 (run_K a6 (run_K a4 (run_K a5 (run_K hne (run_done rfl)))))))
    · rw [decide_eq_false (by lia)] at hne
      by_cases c2 : saidI (st.ms.getD (cellLit many n).x 0) (cellLit many n).sg (cellLit many n).k = 0
      · rw [decide_eq_true (by rw [c2]; rfl)] at heq
        have e : decS many n st = (enterS st (cellLit many n) none).2 := if_pos ⟨c1, c2⟩
        cases o <;> refine (forGo_next (run_forB rfl ?_)).trans q <;> rw [e] <;> exact run_K a1 (run_K a2 (run_K a3 (run_K a6 (run_K a4 (run_K a5 (run_K hne (run_K rfl (run_K hh (run_K heq (run_K rfl (run_K hd (run_done rfl))))))))))))
      · rw [decide_eq_false (by simpa using c2)] at heq
        have e : decS many n st = st := if_neg (fun h => c2 h.2)
        cases o <;> refine (forGo_next (run_forB rfl ?_)).trans q <;> rw [e] <;> exact run_K a1 (run_K a2 (run_K a3 (run_K a6 (run_K a4 (run_K a5 (run_K hne (run_K rfl (run_K hh (run_K heq (run_done rfl))))))))))
end
end Mine.Internal.P
namespace Mine.Internal.P
noncomputable def inBox (D : List Nat) (p : List Int) : Bool := (List.range D.length).all fun x => decide (p.getD x 0 ∈ lotI (D.getD x 0))
theorem eqB (a b : Bool) : cmpV .eq (.bool a) (.bool b) = some (decide (a = b)) := by rcases a with _ | _ <;> rcases b with _ | _ <;> rfl
theorem neB (a b : Bool) : cmpV .ne (.bool a) (.bool b) = some (decide (a ≠ b)) := by rcases a with _ | _ <;> rcases b with _ | _ <;> rfl
theorem dropSelf {n : Nat} {v : RV} {h : Hp} (e : h.length = n) : dropTo n (v, h) = (v, h) := by
  unfold dropTo
  split
  · rw [← e, List.take_length]
  · rfl
section
variable {F : List Nat} {kind split many kls fck fpr : Nat} {rf : List (Nat × RV)} {pass : St → Bool × St} {fi ma : List V} {ext : Hp} {st st1 : St} {good : List (List Int)} {bf : List (List Int)} {p c w u1 u2 xs ys g : V} {o : Option (V × V)} {n81 : Nat}
theorem s_lots (hl : st.ms.length ≤ 4) (hm : ∀ m ∈ st.ms, m < 16) :
    S8 ((LL p c w u1 u2 xs ys kind split many) (T2 g o [])) (hpOf fi ma ext st) 12 = some (.next, (LL p c w u1 u2 xs ys kind split many) (T2 g o [(61, .val (.lst (st.ms.map lotV))), (81, .val (.int (st.tr.length : Int)))]), hpOf fi ma ext st) := by
  have h := amS (lots_sp 6 (fi := fi) (ma := ma) (rest := ext) (st := st) (by lia) hm)
  refine run_S ?_
  rcases o with _ | _ <;> exact run_K h (run_K b_lenM (run_done rfl))
theorem s_before {D : List Nat} (hmD : D.length = many) (hm4 : many ≤ 4) (hgl : good.length ≤ 1000) (hgp : ∀ p ∈ good, p.length = many) (hp : Hp) :
    S8 ((LL p c w u1 u2 xs ys kind split many) (T2 (ptsV good) o [(61, .val (.lst (D.map lotV))), (81, .val (.int (n81 : Int)))])) hp 13 = some (.next, (LL p c w u1 u2 xs ys kind split many) (T2 (ptsV good) o [(61, .val (.lst (D.map lotV))), (81, .val (.int (n81 : Int))), (41, .val (ptsV (good.filter (inBox D))))]), hp) := by
  have hin : ∀ d p, p.length = many → compTop (evD prog (callN prog 8) (d + 6)) (.loc 10) (.name 10) [(.cmp .notin (.idx (.loc 56) (.loc 10)) (.idx (.loc 61) (.loc 10)))] [] [(56, .val (ptV p)), (61, .val (.lst (D.map lotV)))] (rngItems 0 (many : Int) 1) hp = some (((List.range many).filter fun x => !decide (p.getD x 0 ∈ lotI (D.getD x 0))).map fun (j : Nat) => .int (j : Int), hp) := fun d p hpl => by
    rw [rng0]
    refine forItems_filter fun x hx => turn_of rfl ?_
    have hx' := List.mem_range.mp hx
    have a1 := iPt (p := p) (x := x) (by lia)
    have a2 := atLot (ms := D) (x := x) (by lia)
    have a3 := notinI (p.getD x 0) (lotI (D.getD x 0))
    induction z : decide (p.getD x 0 ∈ lotI (D.getD x 0)) with
    | false =>
      rw [z] at a3
      exact run_K a1 (run_K a2 (run_K a3 (run_done rfl)))
    | true =>
      rw [z] at a3
      exact run_K a1 (run_K a2 (run_K a3 (run_done rfl)))
  have hb := b_rng0 (n := many) (by lia)
  have hc : ∀ d, compTop (evD prog (callN prog 8) (d + 12)) (.loc 56) (.name 56) [(.cmp .eq (.comp false [56, 61] (.loc 10) [((.name 10), (.blt .range [(.loc 38)]), [(.cmp .notin (.idx (.loc 56) (.loc 10)) (.idx (.loc 61) (.loc 10)))])]) (.lst false []))] [] [(38, .val (.int (many : Int))), (61, .val (.lst (D.map lotV)))] (good.map ptV) hp = some ((good.filter (inBox D)).map ptV, hp) := fun d => by
    refine forItems_filter fun p hpg => turn_of rfl ?_
    have hin' := fun d => hin d p (hgp p hpg)
    have hlen := gd_t (show (((List.range many).filter fun x => !decide (p.getD x 0 ∈ lotI (D.getD x 0))).map fun (j : Nat) => V.int (j : Int)).length ≤ 4096 by
      rw [List.length_map]
      exact Nat.le_trans (List.length_filter_le _ _) (by simp; lia))
    have hcmp := cmp_nil (xs := ((List.range many).filter fun x => !decide (p.getD x 0 ∈ lotI (D.getD x 0))).map fun (j : Nat) => V.int (j : Int)) (Nat.le_trans (depL_map (fun j => Nat.le_refl 0) _) (by decide))
    rw [map_empty, filter_empty] at hcmp
    have he : ((List.range many).all fun x => !!decide (p.getD x 0 ∈ lotI (D.getD x 0))) = inBox D p := by
      unfold inBox; rw [hmD]; simp
    rw [he] at hcmp
    induction z : inBox D p with
    | false =>
      rw [z] at hcmp
      exact run_K hb (run_K (hin' _) (run_K hlen (run_K hcmp (run_done rfl))))
    | true =>
      rw [z] at hcmp
      exact run_K hb (run_K (hin' _) (run_K hlen (run_K hcmp (run_done rfl))))
  have hlen := gd_t (show ((good.filter (inBox D)).map ptV).length ≤ 4096 by
    rw [List.length_map]
    exact Nat.le_trans (List.length_filter_le _ _) (by lia))
  refine run_S ?_
  rcases o with _ | _ <;> exact run_K (hc _) (run_K hlen (run_done rfl))
noncomputable def T3 (l b : V) (n : Nat) (t : Loc) : Loc := (61, .val l) :: (81, .val (.int (n : Int))) :: (41, .val b) :: t
theorem s_prop (ro : RuleOk kind split many kls fck fpr rf pass) (he : ∀ o ∈ ext, Plain o) {x : HObj} (hx : Plain x) (ok : Okk st) (hl : st.ms.length = many) {l b : V} :
    S8 ((LL p c w u1 u2 xs ys kind split many) (T2 g o (T3 l b n81 []))) (hpOf fi ma (x :: (HObj.inst kls rf) :: ext) st) 14 = some (.next, (LL p c w u1 u2 xs ys kind split many) (T2 g o (T3 l b n81 [(82, .val (.bool (propS pass 63 st).1))])), hpOf fi ma (x :: (HObj.inst kls rf) :: ext) (propS pass 63 st).2) := by
  have h := amS (ro.pr fi ma x ext st hx he ok hl)
  have hm := mth_of (P := prog) ro.l83 ro.m83
  refine run_S ?_
  rcases o with _ | _ <;> exact run_K hm (run_K h (run_done rfl))
theorem s_verdict {b : Bool} (hb : b = !bf.isEmpty) (hf : st.failed = bf.isEmpty) {l : V} :
    S8 ((LL p c w u1 u2 xs ys kind split many) (T2 g o (T3 l (ptsV bf) n81 [(82, .val (.bool b))]))) (hpOf fi ma ext st) 15 = some (.next, (LL p c w u1 u2 xs ys kind split many) (T2 g o (T3 l (ptsV bf) n81 [(82, .val (.bool b))])), hpOf fi ma ext st) := by
  have h1 := cmp_nnil (xs := bf.map ptV) (Nat.le_trans (depL_pts bf) (by decide))
  have h2 := cmp_nil (xs := bf.map ptV) (Nat.le_trans (depL_pts bf) (by decide))
  rw [map_empty] at h1 h2
  have h3 := neB b (!bf.isEmpty)
  rw [decide_eq_false (by simp [hb])] at h3
  have h4 := neB st.failed bf.isEmpty
  rw [decide_eq_false (by simp [hf])] at h4
  refine run_S ?_
  rcases o with _ | _ <;> exact run_K h1 (run_K h3 (run_K h2 (run_K h4 (run_done rfl))))
theorem s_right {x : HObj} {ents : List Ent} {D : List Nat} (htr : st.tr = st1.tr ++ ents) (hgl : good.length ≤ 1000) (hch : ChainP good D ents) (hD4 : D.length ≤ 4) (hpl : ∀ p ∈ good, p.length = D.length) (hm : ∀ m ∈ D, m < 16) {b v : V} :
    ∃ o', S8 ((LL p c w u1 u2 xs ys kind split many) (T2 (ptsV good) o (T3 (.lst (D.map lotV)) b st1.tr.length [(82, .val v)]))) (hpOf fi ma [x, (HObj.inst kls rf)] st) 16 = some (.next, (LL p c w u1 u2 xs ys kind split many) (T2 (ptsV good) o (T3 (.lst (D.map lotV)) b st1.tr.length [(82, .val v)])), hpOf fi ma [x, (HObj.inst kls rf), .mlst o'] st) := by
  obtain ⟨o', hR⟩ := right_sp (fi := fi) (ma := ma) (st := st) (x := x) (y := (HObj.inst kls rf)) 5 (good := good) (by lia) hch hpl hm
  have hR := am hR (dropSelf rfl)
  refine ⟨o', ?_⟩
  have hc : ∀ d hp, compTop (evD prog (callN prog 8) (d + 6)) (.blt .list [(.loc 62)]) (.name 62) [] [] [] (D.map lotV) hp = some (D.map lotV, hp) := fun d hp => by
    refine forItems_map fun m hm => turn_of rfl ?_
    rw [lotV_eq]
    have hl := b_list (v := .lst ((lotI m).map V.int)) rfl (by have := lotI_len (m := m); rw [List.length_map]; lia)
    exact run_K hl (run_done rfl)
  have hlen := gd_t (show (D.map lotV).length ≤ 4096 by rw [List.length_map]; lia)
  have hsl := sl_fromL (vs := st.tr.map Ent.v) (n := st1.tr.length)
  have hdr : (st.tr.map Ent.v).drop st1.tr.length = ents.map Ent.v := by rw [htr]; simp
  rw [hdr] at hsl
  refine run_S ?_
  rcases o with _ | _ <;> exact run_K hsl (run_K (hc _ _) (run_K hlen (run_K hR (run_done rfl))))
theorem s_late (hl : st.ms.length ≤ 4) (hm : ∀ m ∈ st.ms, m < 16) {l b v : V} :
    S8 ((LL p c w u1 u2 xs ys kind split many) (T2 g o (T3 l b n81 [(82, .val v)]))) (hpOf fi ma ext st) 17 = some (.next, (LL p c w u1 u2 xs ys kind split many) (T2 g o (T3 l b n81 [(82, .val v), (84, .val (.lst (st.ms.map lotV)))])), hpOf fi ma ext st) := by
  have h := amS (lots_sp 6 (fi := fi) (ma := ma) (rest := ext) (st := st) (by lia) hm)
  refine run_S ?_
  rcases o with _ | _ <;> exact run_K h (run_done rfl)
theorem s_stand (ro : RuleOk kind split many kls fck fpr rf pass) (he : ∀ o ∈ ext, Plain o) {x : HObj} (hx : Plain x) (ok : Okk st) (hl : st.ms.length = many)
    (h2 : propS pass 63 st = (true, st)) (ht : callN prog 8 41 [.val (.int (kind : Int)), .val (.int (split : Int)), .val (.lst (st.ms.map lotV)), .val (ptsV bf)] [] = some (.val (.bool true), [])) {l : V} :
    S8 ((LL p c w u1 u2 xs ys kind split many) (T2 g o (T3 l (ptsV bf) n81 [(82, .val (.bool true)), (84, .val (.lst (st.ms.map lotV)))]))) (hpOf fi ma (x :: (HObj.inst kls rf) :: ext) st) 18 =
      some (.next, (LL p c w u1 u2 xs ys kind split many) (T2 g o (T3 l (ptsV bf) st.tr.length [(82, .val (.bool true)), (84, .val (.lst (st.ms.map lotV)))])), hpOf fi ma (x :: (HObj.inst kls rf) :: ext) st) := by
  have h := ro.pr fi ma x ext st hx he ok hl
  rw [h2] at h
  have h := amS h
  have hm := mth_of (P := prog) ro.l83 ro.m83
  have hne := neI (st.tr.length : Int) (st.tr.length : Int)
  rw [decide_eq_true rfl] at hne
  refine run_S ?_
  rcases o with _ | _ <;> exact run_K b_lenM (run_K ht (run_K hm (run_K h (run_K b_lenM (run_K hne (run_done rfl))))))
theorem s_fall (hcl : ∀ l ∈ st.clash, l.ok st.ms.length ∧ saidI (st.ms.getD l.x 0) l.sg l.k = 1) (hc0 : st.clash.length ≤ 2000) (hgl : good.length ≤ 1000) (hgp : ∀ p ∈ good, p.length = st.ms.length) (hno : ∀ p ∈ good, hasAll st.clash p = false)
    (oo : Ok st) {l b v : V} :
    S8 ((LL p c w u1 u2 xs ys kind split many) (T2 (ptsV good) o (T3 l b n81 [(82, .val (.bool false)), (84, .val v)]))) (hpOf fi ma ext st) 18 = some (.next, (LL p c w u1 u2 xs ys kind split many) (T2 (ptsV good) o (T3 l b n81 [(82, .val (.bool false)), (84, .val v)])), hpOf fi ma ext st) := by
  have hc1 : ∀ d, compTop (evD prog (callN prog 8) (d + 8)) (.loc 60) (.name 60) [(.cmp .ne (.meth (.loc 63) 79 [(.loc 60)]) (.cint 1))] [] [(63, .ref 0)] (st.clash.map Lit.v) (hpOf fi ma ext st) = some ([], hpOf fi ma ext st) := fun d => by
    refine (forItems_filter (p := fun _ => false) (g := Lit.v) fun l hl => turn_of rfl ?_).trans (by rw [List.filter_eq_nil_iff.mpr (fun _ _ => by simp)]; rfl)
    obtain ⟨lo, ls⟩ := hcl l hl
    have hh := amS (holds_sp 3 (fi := fi) (ma := ma) (rest := ext) oo lo)
    rw [ls] at hh
    have hne := neI 1 ((1 : Nat) : Int)
    rw [decide_eq_true (by rfl)] at hne
    exact run_K rfl (run_K hh (run_K hne (run_done rfl)))
  have hc2 : ∀ d, compTop (evD prog (callN prog 8) (d + 8)) (.loc 56) (.name 56) [(.call 35 [(.attr (.loc 63) 21), (.loc 56)])] [] [(63, .ref 0)] (good.map ptV) (hpOf fi ma ext st) = some ([], hpOf fi ma ext st) := fun d => by
    refine (forItems_filter (p := fun _ => false) (g := ptV) fun p hp => turn_of rfl ?_).trans (by rw [List.filter_eq_nil_iff.mpr (fun _ _ => by simp)]; rfl)
    have ha := has_all_sp 6 (R := st.clash) (p := p) (fun l m => ⟨(hcl l m).1.2.1, by rw [hgp p hp]; exact (hcl l m).1.1⟩) (by lia)
    rw [hno p hp] at ha
    exact run_K ha (run_done rfl)
  have hn := cmp_nnil (xs := []) (by decide)
  refine run_S ?_
  rcases o with _ | _ <;> exact run_K (hc1 _) (run_K rfl (run_K hn (run_K (hc2 _) (run_K rfl (run_K hn (run_done rfl))))))
theorem lotsG_sp {j : Nat} {ms : List Nat} {f t m : List V} {n : Nat} {r : Hp} (h4 : ms.length ≤ 4) (hm : ∀ x ∈ ms, x < 16) :
    callN prog 8 39 [.ref 0] (GH (pfs j) (ms.map domV) f t m n r) = some (.val (.lst (ms.map lotV)), GH (pfs j) (ms.map domV) f t m n r) := by
  have hsz : dcall (callN prog 7) 11 [.ref 0] (GH (pfs j) (ms.map domV) f t m n r) = some (.val (.int (ms.length : Int)), GH (pfs j) (ms.map domV) f t m n r) := am (run_fnT (fd := f_Store_size) rfl rfl rfl (by
    exact run_V b_lenM (run_d rfl))) (dropSelf rfl)
  have hdm : ∀ x, x < ms.length → dcall (callN prog 7) 12 [.ref 0, .val (.int (x : Int))] (GH (pfs j) (ms.map domV) f t m n r) = some (.val (domV (ms.getD x 0)), GH (pfs j) (ms.map domV) f t m n r) := fun x hx => by
    have hd : atIdx (ms.map domV) (x : Int) = some (domV (ms.getD x 0)) := (atIdx_nat _ _).trans (by rw [List.getElem?_map, List.getD_eq_getElem?_getD, List.getElem?_eq_getElem hx]; rfl)
    refine am (run_fnT (fd := f_Store_dom) rfl rfl rfl ?_) (dropSelf rfl)
    exact run_V hd (run_d rfl)
  have hb := b_rng0 (n := ms.length) (by lia)
  have he : (List.range ms.length).map (fun x => lotV (ms.getD x 0)) = ms.map lotV := by
    apply List.ext_getElem
    · simp
    · intro i h1 h2
      simp at h1
      simp [List.getElem?_eq_getElem h1]
  have hc : ∀ d, compTop (evD prog (callN prog 7) (d + 10)) (.call 37 [(.meth (.loc 63) 65 [(.loc 10)])]) (.name 10) [] [] [(63, .ref 0)] (rngItems 0 (ms.length : Int) 1) (GH (pfs j) (ms.map domV) f t m n r)
      = some (ms.map lotV, GH (pfs j) (ms.map domV) f t m n r) := fun d => by
    rw [rng0, ← he]
    refine forItems_map fun x hx => turn_of rfl ?_
    have hx' := List.mem_range.mp hx
    have h1 := hdm x hx'
    have h2 := values_sp 6 (m := ms.getD x 0) (by rw [List.getD_eq_getElem?_getD, List.getElem?_eq_getElem hx']; exact hm _ (List.getElem_mem hx'))
    exact run_K rfl (run_K h1 (run_K h2 (run_done rfl)))
  have hl := gd_t (show (ms.map lotV).length ≤ 4096 by simp; lia)
  refine run_fnT (fd := f_law_lots) rfl rfl rfl ?_
  exact run_V rfl (run_V hsz (run_V hb (run_V (hc _) (run_V hl (run_d rfl)))))
theorem eqL_lots : ∀ {F : List Nat}, (∀ m ∈ F, m < 16) → eqL (F.map lotV) (F.map lotV) = true ∧ depL (F.map lotV) ≤ 1
  | [] => @fun _ => ⟨rfl, Nat.zero_le _⟩
  | m :: F => @fun h => by
    have hm := h m (.head _)
    have e := eq_at hm hm
    have ih := eqL_lots (F := F) fun m mm => h m (.tail _ mm)
    refine ⟨?_, ?_⟩
    · show (eqV (lotV m) (lotV m) && eqL (F.map lotV) (F.map lotV)) = true
      rw [e.2.1, ih.1, decide_eq_true rfl]; rfl
    · exact Nat.max_le.mpr ⟨e.2.2.2, ih.2⟩
theorem cmp_lots {F : List Nat} (h : ∀ m ∈ F, m < 16) : cmpV .eq (.lst (F.map lotV)) (.lst (F.map lotV)) = some true := by
  have e := eqL_lots h
  show (if depL (F.map lotV) + 1 ≤ 8 ∧ depL (F.map lotV) + 1 ≤ 8 then some (eqL (F.map lotV) (F.map lotV)) else none) = _
  rw [if_pos ⟨by lia, by lia⟩, e.1]
theorem s_end (hF : ∀ m ∈ F, m < 16 ∧ m ≠ 0) (hF4 : F.length ≤ 4) (ht : st.tr.length ≤ 40) (hx : ∀ e ∈ st.tr, e.x < st.ms.length) (hres : restore st.tr st.ms = F) {t : Loc} :
    ∃ hp', blkL 19 (LL p c w u1 u2 xs ys kind split many t) (hpOf (F.map domV) [.int 0] (.flst (F.map lotV) :: ext) st) = some (.ret (.val (.bool true)), LL p c w u1 u2 xs ys kind split many t, hp') := by
  have hp := pop_sp 7 hF ht hx (rest := .flst (F.map lotV) :: ext)
  rw [hres] at hp
  have hp := am hp (show dropTo (hpOf (F.map domV) [.int 0] (.flst (F.map lotV) :: ext) st).length _ = _ by
    unfold dropTo
    rw [if_neg]
    simp [GH, pfs, objUnder, refsUnder, SH, hpOf])
  have hl := am (lotsG_sp (j := (HObj.flst (F.map lotV) :: ext).length + 6) (ms := F) (f := F.map domV) (t := []) (m := [.int 0]) (n := st.n) (r := (.flst (F.map lotV) :: ext) ++ [.idict 0]) hF4 (fun m mm => (hF m mm).1)) (dropSelf rfl)
  have hc := cmp_lots (F := F) fun m mm => (hF m mm).1
  refine ⟨GH (pfs ((HObj.flst (F.map lotV) :: ext).length + 6)) (F.map domV) (F.map domV) [] [.int 0] st.n ((.flst (F.map lotV) :: ext) ++ [.idict 0]), run_blk (d := 24) ?_⟩
  exact run_K rfl (run_K hp (run_K hl (run_K hc (run_done rfl))))
end
end Mine.Internal.P
namespace Mine.Internal.P
noncomputable def inj_chk : Bool := (List.range 16).all fun m => (List.range 16).all fun n => decide (lotI m ≠ lotI n) || decide (m = n)
theorem inj_ok : inj_chk = true := by kernel_rfl
theorem lot_inj {m n : Nat} (hm : m < 16) (hn : n < 16) (h : lotI m = lotI n) : m = n := by
  have := List.all_eq_true.mp (List.all_eq_true.mp inj_ok m (List.mem_range.mpr hm)) n (List.mem_range.mpr hn)
  simp only [Bool.or_eq_true, decide_eq_true_eq] at this
  exact this.resolve_left fun x => x h
noncomputable def lends_chk : Bool := (List.range 16).all fun m => (m == 0) || (decide (loM m ∈ lotI m) && decide (hiM m ∈ lotI m) && (lotI m).all fun v => decide (loM m ≤ v) && decide (v ≤ hiM m) && decide (0 ≤ v) && decide (v < 4))
theorem lends_ok : lends_chk = true := by kernel_rfl
theorem lot_ends {m : Nat} (hm : m < 16) (h0 : m ≠ 0) : loM m ∈ lotI m ∧ hiM m ∈ lotI m ∧ ∀ v ∈ lotI m, loM m ≤ v ∧ v ≤ hiM m := by
  have h := List.all_eq_true.mp lends_ok m (List.mem_range.mpr hm)
  simp only [Bool.or_eq_true, beq_iff_eq, Bool.and_eq_true, decide_eq_true_eq, List.all_eq_true] at h
  have := h.resolve_left h0
  exact ⟨this.1.1, this.1.2, fun v m => ⟨(this.2 v m).1.1.1, (this.2 v m).1.1.2⟩⟩
theorem lot_bnd {m : Nat} {v : Int} (h : v ∈ lotI m) : 0 ≤ v ∧ v < 4 := by
  obtain ⟨i, hi, rfl⟩ := List.mem_map.mp h
  have := List.mem_range.mp (List.mem_filter.mp hi).1
  lia
theorem lot_mem {m : Nat} {i : Nat} (hi : i < 4) : (i : Int) ∈ lotI m ↔ m.testBit i = true := by
  unfold lotI valsM
  rw [List.mem_map]
  constructor
  · rintro ⟨j, hj, e⟩
    have : j = i := by lia
    subst this
    exact (List.mem_filter.mp hj).2
  · exact fun h => ⟨i, List.mem_filter.mpr ⟨List.mem_range.mpr hi, h⟩, rfl⟩
noncomputable abbrev domS (st : St) (x : Nat) : List Int := lotI (st.ms.getD x 0)
noncomputable def Lit.ok2 (l : Lit) (n : Nat) : Prop := l.x < n ∧ l.sg < 4 ∧ -2 ≤ l.k ∧ l.k ≤ 5
theorem Lit.ok2.ok {l : Lit} {n : Nat} (h : l.ok2 n) : l.ok n := ⟨h.1, h.2.1, by have := h.2.2.1; lia, by have := h.2.2.2; lia⟩
theorem neg_ok {l : Lit} {n : Nat} (h : l.ok2 n) : (negL l).ok n := by
  obtain ⟨x, sg, k⟩ := l
  obtain ⟨h1, h2, h3, h4⟩ := h
  dsimp only at h1 h2 h3 h4
  match sg, h2 with
  | 0, _ => exact ⟨h1, by show 1 < 4; decide, by show -3 ≤ k + 1; lia, by show k + 1 ≤ 6; lia⟩
  | 1, _ => exact ⟨h1, by show 0 < 4; decide, by show -3 ≤ k - 1; lia, by show k - 1 ≤ 6; lia⟩
  | 2, _ => exact ⟨h1, by show 3 < 4; decide, by show -3 ≤ k; lia, by show k ≤ 6; lia⟩
  | 3, _ => exact ⟨h1, by show 2 < 4; decide, by show -3 ≤ k; lia, by show k ≤ 6; lia⟩
  | n + 4, h => exact absurd h (by lia)
theorem neg_says {l : Lit} (h : l.sg < 4) (v : Int) : saysL (negL l) v = !saysL l v := by
  obtain ⟨x, sg, k⟩ := l
  dsimp only at h
  match sg, h with
  | 0, _ =>
    show decide (v ≥ k + 1) = !decide (v ≤ k)
    by_cases c : v ≤ k
    · rw [decide_eq_true c, decide_eq_false (by lia)]; rfl
    · rw [decide_eq_false c, decide_eq_true (by lia)]; rfl
  | 1, _ =>
    show decide (v ≤ k - 1) = !decide (v ≥ k)
    by_cases c : v ≥ k
    · rw [decide_eq_true c, decide_eq_false (by lia)]; rfl
    · rw [decide_eq_false c, decide_eq_true (by lia)]; rfl
  | 2, _ =>
    show decide (v ≠ k) = !decide (v = k)
    by_cases c : v = k <;> simp [c]
  | 3, _ =>
    show decide (v = k) = !decide (v ≠ k)
    by_cases c : v = k <;> simp [c]
  | n + 4, h => exact absurd h (by lia)
theorem neg_x {l : Lit} : (negL l).x = l.x := by
  unfold negL
  split <;> rfl
theorem mem_strike {m sg : Nat} {k v : Int} (hm : m < 16) (hs : sg < 4) (hk : -3 ≤ k ∧ k ≤ 6) : v ∈ lotI (strikeM m sg k) ↔ v ∈ lotI m ∧ saysI sg k v = true := by
  rw [← flt hm hs hk, List.mem_filter]
theorem strike_all {m sg : Nat} {k : Int} (hm : m < 16) (hs : sg < 4) (hk : -3 ≤ k ∧ k ≤ 6) : strikeM m sg k = m ↔ ∀ v ∈ lotI m, saysI sg k v = true := by
  constructor
  · intro h v hv
    rw [← h] at hv
    exact ((mem_strike hm hs hk).mp hv).2
  · intro h
    refine lot_inj strikeM_lt hm ?_
    rw [← flt hm hs hk]
    exact List.filter_eq_self.mpr h
theorem strike_none {m sg : Nat} {k : Int} (hm : m < 16) (hs : sg < 4) (hk : -3 ≤ k ∧ k ≤ 6) (h : strikeM m sg k = 0) : ∀ v ∈ lotI m, saysI sg k v = false := by
  intro v hv
  induction e : saysI sg k v with
  | false => rfl
  | true =>
    have := (mem_strike hm hs hk).mpr ⟨hv, e⟩
    rw [h] at this
    cases this
section
variable {K : List Int → Prop} {n : Nat} {st st1 st2 : St} {l : Lit} {R : List Lit}
structure Sound (K : List Int → Prop) (n : Nat) (st : St) (l : Lit) (R : List Lit) : Prop where
  lok : l.ok2 n
  rok : ∀ r ∈ R, r.ok n ∧ ∀ v ∈ domS st r.x, saysL r v = true
  len : R.length ≤ 1000
  force : ∀ p : List Int, p.length = n → K p → hasAll R p = true → saysL l (p.getD l.x 0) = true
structure Bad (K : List Int → Prop) (n : Nat) (st : St) (R : List Lit) : Prop where
  rok : ∀ r ∈ R, r.ok n ∧ ∀ v ∈ domS st r.x, saysL r v = true
  len : R.length ≤ 1001
  no : ∀ p : List Int, p.length = n → K p → hasAll R p = false
inductive Path (K : List Int → Prop) (n : Nat) : St → St → Prop
  | refl (st : St) : Path K n st st
  | step {st st1 st2 : St} {l : Lit} {R : List Lit} : Sound K n st l R → enterS st l (some R) = (true, st1) → Path K n st1 st2 → Path K n st st2
theorem Path.trans {a b c : St} (x : Path K n a b) (y : Path K n b c) : Path K n a c := by
  induction x with
  | refl => exact y
  | step s e _ ih => exact .step s e (ih y)
theorem Path.one (s : Sound K n st l R) (e : enterS st l (some R) = (true, st1)) : Path K n st st1 := .step s e (.refl _)
theorem hasAll_app {a b : List Lit} {p : List Int} : hasAll (a ++ b) p = (hasAll a p && hasAll b p) := by simp [hasAll]
theorem enter_bad (o : Okk st) (hn : st.ms.length = n) (s : Sound K n st l R) (e : enterS st l (some R) = (false, st1)) : Bad K n st (R ++ [negL l]) ∧ st1 = { st with failed := true, clash := R ++ [negL l] } := by
  have lo := s.lok.ok
  have hm := o.ok.at (x := l.x) (by rw [hn]; exact lo.1)
  unfold enterS at e
  dsimp only at e
  split at e
  · rename_i h0
    cases e
    refine ⟨⟨fun r hr => ?_, by have := s.len; simp; lia, fun p hp hk => ?_⟩, rfl⟩
    · rcases List.mem_append.mp hr with hr | hr
      · exact s.rok r hr
      · rw [List.mem_singleton.mp hr]
        refine ⟨neg_ok s.lok, fun v hv => ?_⟩
        rw [neg_x] at hv
        rw [neg_says lo.2.1]
        have := strike_none hm.1 lo.2.1 lo.2.2 h0 v hv
        show (!saysI l.sg l.k v) = true
        rw [this]; rfl
    · rw [hasAll_app]
      induction h : hasAll R p with
      | false => rfl
      | true =>
        have := s.force p hp hk h
        simp [hasAll, neg_x, neg_says lo.2.1, ← List.getD_eq_getElem?_getD, this]
  · split at e <;> cases e
theorem enter_good (o : Okk st) (hn : st.ms.length = n) (lo : l.ok n) {rs : Option (List Lit)} (e : enterS st l rs = (true, st1)) :
    (st1 = st ∧ ∀ v ∈ domS st l.x, saysL l v = true) ∨ (st1 = { st with ms := st.ms.set l.x (strikeM (st.ms.getD l.x 0) l.sg l.k), tr := st.tr ++ [⟨l.x, st.ms.getD l.x 0, l, rs⟩], n := st.n + 1 }) := by
  have hm := o.ok.at (x := l.x) (by rw [hn]; exact lo.1)
  unfold enterS at e
  dsimp only at e
  split at e
  · cases e
  · split at e
    · rename_i h1
      cases e
      exact .inl ⟨rfl, (strike_all hm.1 lo.2.1 lo.2.2).mp h1⟩
    · cases e; exact .inr rfl
theorem getD_set {ms : List Nat} {x y m : Nat} (h : x < ms.length) : (ms.set x m).getD y 0 = if y = x then m else ms.getD y 0 := by
  rw [List.getD_eq_getElem?_getD, List.getElem?_set, List.getD_eq_getElem?_getD]
  by_cases e : y = x
  · subst e; simp [h]
  · rw [if_neg e, if_neg (fun h => e h.symm)]
theorem enter_dom (o : Okk st) (hn : st.ms.length = n) (lo : l.ok n) {rs : Option (List Lit)} (e : enterS st l rs = (true, st1)) (y : Nat) (v : Int) : v ∈ domS st1 y ↔ v ∈ domS st y ∧ (y = l.x → saysL l v = true) := by
  have hm := o.ok.at (x := l.x) (by rw [hn]; exact lo.1)
  rcases enter_good o hn lo e with ⟨rfl, h⟩ | rfl
  · exact ⟨fun hv => ⟨hv, fun q => h v (q ▸ hv)⟩, fun hv => hv.1⟩
  · show v ∈ lotI ((st.ms.set l.x _).getD y 0) ↔ _
    rw [getD_set (by rw [hn]; exact lo.1)]
    by_cases q : y = l.x
    · rw [if_pos q, mem_strike hm.1 lo.2.1 lo.2.2, q]
      exact ⟨fun h => ⟨h.1, fun _ => h.2⟩, fun h => ⟨h.1, h.2 rfl⟩⟩
    · rw [if_neg q]
      exact ⟨fun h => ⟨h, fun e => absurd e q⟩, fun h => h.1⟩
theorem Okk.next (o : Okk st) (hn : st.ms.length = n) (lo : l.ok n) {rs : Option (List Lit)} (e : enterS st l rs = (true, st1)) : Okk st1 ∧ st1.ms.length = n := by
  have a := enter_ok (rs := rs) o (by rw [hn]; exact lo)
  have b := enter_len (st := st) (l := l) (rs := rs)
  rw [e] at a b
  exact ⟨a rfl, by rw [← hn]; exact b⟩
theorem Path.okk (p : Path K n st st1) (o : Okk st) (hn : st.ms.length = n) : Okk st1 ∧ st1.ms.length = n := by
  induction p with
  | refl => exact ⟨o, hn⟩
  | step s e _ ih => obtain ⟨a, b⟩ := o.next hn s.lok.ok e; exact ih a b
theorem Path.sub (p : Path K n st st1) (o : Okk st) (hn : st.ms.length = n) {y : Nat} {v : Int} (h : v ∈ domS st1 y) : v ∈ domS st y := by
  induction p with
  | refl => exact h
  | step s e _ ih => obtain ⟨a, b⟩ := o.next hn s.lok.ok e; exact ((enter_dom o hn s.lok.ok e _ _).mp (ih a b h)).1
theorem Path.holds (p : Path K n st st1) (o : Okk st) (hn : st.ms.length = n) {r : Lit} (h : ∀ v ∈ domS st r.x, saysL r v = true) : ∀ v ∈ domS st1 r.x, saysL r v = true := fun v hv => h v (p.sub o hn hv)
noncomputable def Box (ms : List Nat) (p : List Int) : Prop := ∀ x, x < ms.length → p.getD x 0 ∈ lotI (ms.getD x 0)
theorem hasAll_of (h : ∀ r ∈ R, r.x < n ∧ ∀ v ∈ domS st r.x, saysL r v = true) (hn : st.ms.length = n) {p : List Int} (b : Box st.ms p) : hasAll R p = true :=
  List.all_eq_true.mpr fun r hr => (h r hr).2 _ (b r.x (by rw [hn]; exact (h r hr).1))
theorem Path.keep (pa : Path K n st st1) (o : Okk st) (hn : st.ms.length = n) {p : List Int} (hp : p.length = n) (hk : K p) (b : Box st.ms p) : Box st1.ms p := by
  induction pa with
  | refl => exact b
  | step s e _ ih =>
    obtain ⟨a, a'⟩ := o.next hn s.lok.ok e
    refine ih a a' fun x hx => (enter_dom o hn s.lok.ok e _ _).mpr ⟨b x (by rw [hn, ← a']; exact hx), fun q => ?_⟩
    have := s.force p hp hk (hasAll_of (fun r hr => ⟨(s.rok r hr).1.1, (s.rok r hr).2⟩) hn b)
    rw [q]; exact this
theorem restore_app : ∀ {a b : List Ent} {ms : List Nat}, restore (a ++ b) ms = restore a (restore b ms)
  | [], _, _ => rfl
  | e :: a, b, ms => by simp only [List.cons_append, restore, restore_app]
theorem set_back {ms : List Nat} {x m : Nat} (h : x < ms.length) : (ms.set x m).set x (ms.getD x 0) = ms := by
  rw [List.set_set]
  apply set_self
  rw [List.getD_eq_getElem?_getD, List.getElem?_eq_getElem h]; rfl
theorem Path.ents (pa : Path K n st st1) (o : Okk st) (hn : st.ms.length = n) {good : List (List Int)} (hg : ∀ p ∈ good, p.length = n ∧ K p) :
    ∃ es, st1.tr = st.tr ++ es ∧ ChainP good st.ms es ∧ restore es st1.ms = st.ms ∧ (∀ e ∈ es, e.x < n) ∧ st1.failed = st.failed ∧ st1.clash = st.clash ∧ (es = [] → st1 = st) := by
  induction pa with
  | refl => exact ⟨[], by simp, trivial, rfl, (fun _ h => nM h), rfl, rfl, fun _ => rfl⟩
  | @step st sta stb l R s e pa ih =>
    obtain ⟨a, b⟩ := o.next hn s.lok.ok e
    obtain ⟨es, h1, h2, h3, h4, h5, h6, h7⟩ := ih a b
    have lo := s.lok.ok
    rcases enter_good o hn lo e with ⟨rfl, _⟩ | rfl
    · exact ⟨es, h1, h2, h3, h4, h5, h6, h7⟩
    · have hm := o.ok.at (x := l.x) (by rw [hn]; exact lo.1)
      refine ⟨⟨l.x, st.ms.getD l.x 0, l, some R⟩ :: es, by rw [h1]; simp, ⟨by rw [hn]; exact lo.1, rfl, hm.1, rfl, lo.2.1, lo.2.2.1, lo.2.2.2, ⟨R, rfl, by have := s.len; lia, fun r hr => ⟨(s.rok r hr).1.2.1, by rw [hn]; exact (s.rok r hr).1.1, (s.rok r hr).2⟩, fun p hp h => s.force p (hg p hp).1 (hg p hp).2 h⟩, h2⟩, ?_, fun e he => ?_, h5, h6, fun h => by injection h⟩
      · show (restore es _).set l.x (st.ms.getD l.x 0) = st.ms
        rw [h3]
        exact set_back (by rw [hn]; exact lo.1)
      · rcases List.mem_cons.mp he with rfl | he
        · exact lo.1
        · exact h4 e he
end
end Mine.Internal.P
namespace Mine.Internal.P
noncomputable def SaysAll (R : List Lit) (f : Nat → Int) : Prop := ∀ l ∈ R, saysL l (f l.x) = true
theorem hasAll_iff {R : List Lit} {p : List Int} : hasAll R p = true ↔ SaysAll R (fun x => p.getD x 0) := by
  unfold hasAll SaysAll
  rw [List.all_eq_true]
theorem SaysAll.app {a b : List Lit} {f : Nat → Int} : SaysAll (a ++ b) f ↔ SaysAll a f ∧ SaysAll b f :=
  ⟨fun h => ⟨fun l m => h l (List.mem_append_left _ m), fun l m => h l (List.mem_append_right _ m)⟩, fun h l m => (List.mem_append.mp m).elim (h.1 l) (h.2 l)⟩
theorem says_ge {x : Nat} {k v : Int} : saysL ⟨x, 1, k⟩ v = true ↔ v ≥ k := by show decide (v ≥ k) = true ↔ _; simp
theorem says_le {x : Nat} {k v : Int} : saysL ⟨x, 0, k⟩ v = true ↔ v ≤ k := by show decide (v ≤ k) = true ↔ _; simp
theorem SaysAll.one {l : Lit} {f : Nat → Int} : SaysAll [l] f ↔ saysL l (f l.x) = true := ⟨fun h => h l (by simp), fun h l' m => by rw [List.mem_singleton.mp m]; exact h⟩
theorem SaysAll.two {a b : Lit} {f : Nat → Int} : SaysAll [a, b] f ↔ saysL a (f a.x) = true ∧ saysL b (f b.x) = true :=
  ⟨fun h => ⟨h a (by simp), h b (by simp)⟩, fun h l m => by
    rcases List.mem_cons.mp m with rfl | m
    · exact h.1
    · rw [List.mem_singleton.mp m]; exact h.2⟩
noncomputable def LexK (alike : Bool) : List (Nat × Nat) → (Nat → Int) → Prop
  | [], _ => alike = true
  | (x, y) :: r, f => f x < f y ∨ (f x = f y ∧ LexK alike r f)
noncomputable def Hold (n : Nat) (st : St) (R : List Lit) : Prop := ∀ r ∈ R, r.ok n ∧ ∀ v ∈ domS st r.x, saysL r v = true
theorem Hold.app {n : Nat} {st : St} {a b : List Lit} (x : Hold n st a) (y : Hold n st b) : Hold n st (a ++ b) := fun r m => (List.mem_append.mp m).elim (x r) (y r)
section
variable {n : Nat} {st st1 st2 : St} {alike : Bool}
theorem okLo (o : Okk st) (hn : st.ms.length = n) {x : Nat} (hx : x < n) : loM (st.ms.getD x 0) ∈ domS st x ∧ hiM (st.ms.getD x 0) ∈ domS st x ∧ (∀ v ∈ domS st x, loM (st.ms.getD x 0) ≤ v ∧ v ≤ hiM (st.ms.getD x 0)) ∧ 0 ≤ loM (st.ms.getD x 0) ∧ loM (st.ms.getD x 0) ≤ 3 ∧ 0 ≤ hiM (st.ms.getD x 0) ∧ hiM (st.ms.getD x 0) ≤ 3 := by
  have h := o.ok.at (x := x) (by rw [hn]; exact hx)
  obtain ⟨a, b, c⟩ := lot_ends h.1 h.2
  obtain ⟨d, e, f⟩ := ends_in h.1 h.2
  exact ⟨a, b, c, d, by lia, by lia, f⟩
theorem hold_lo (o : Okk st) (hn : st.ms.length = n) {x : Nat} (hx : x < n) : Hold n st [⟨x, 1, loM (st.ms.getD x 0)⟩] := fun r m => by
  rw [List.mem_singleton.mp m]
  refine hide fun G hG => ?_
  obtain ⟨a, b, c, d, e, f, g⟩ := okLo o hn hx
  refine hG ?_
  exact ⟨⟨hx, by show 1 < 4; decide, by show -3 ≤ loM _; lia, by show loM _ ≤ 6; lia⟩, fun v hv => says_ge.mpr (c v hv).1⟩
theorem hold_hi (o : Okk st) (hn : st.ms.length = n) {x : Nat} (hx : x < n) : Hold n st [⟨x, 0, hiM (st.ms.getD x 0)⟩] := fun r m => by
  rw [List.mem_singleton.mp m]
  refine hide fun G hG => ?_
  obtain ⟨a, b, c, d, e, f, g⟩ := okLo o hn hx
  refine hG ?_
  exact ⟨⟨hx, by show 0 < 4; decide, by show -3 ≤ hiM _; lia, by show hiM _ ≤ 6; lia⟩, fun v hv => says_le.mpr (c v hv).2⟩
theorem hold_two (o : Okk st) (hn : st.ms.length = n) {x y : Nat} (hx : x < n) (hy : y < n) : Hold n st [⟨x, 1, loM (st.ms.getD x 0)⟩, ⟨y, 0, hiM (st.ms.getD y 0)⟩] :=
  (hold_lo o hn hx).app (hold_hi o hn hy)
theorem broken_sound (o : Okk st) (hn : st.ms.length = n) : ∀ (r : List (Nat × Nat)) (acc : List Lit), (∀ p ∈ r, p.1 < n ∧ p.2 < n) → Hold n st acc →
    (∀ R, (brokenL st.ms r acc).1 = some (some R) → Hold n st R ∧ ∀ f, SaysAll R f → SaysAll acc f ∧ ¬ LexK alike r f) ∧
    ((brokenL st.ms r acc).1 = none → Hold n st (brokenL st.ms r acc).2 ∧ ∀ f, SaysAll (brokenL st.ms r acc).2 f → SaysAll acc f ∧ (LexK alike r f → alike = true))
  | [] => @fun acc _ h => ⟨(fun R e => nS e), fun _ => ⟨h, fun f s => ⟨s, fun k => k⟩⟩⟩
  | (x, y) :: r => @fun acc hr h => by
    obtain ⟨hx, hy⟩ := hr (x, y) (.head _)
    dsimp only at hx hy
    have h2 := h.app (hold_two o hn hx hy)
    simp only [brokenL_c]
    split
    · exact ⟨(fun R e => by simp at e), (fun e => by simp at e)⟩
    · rename_i c1
      split
      · rename_i c2
        refine ⟨fun R e => ?_, (fun e => by simp at e)⟩
        rcases e with ⟨⟩
        refine ⟨h2, fun f s => ?_⟩
        obtain ⟨s1, s2⟩ := SaysAll.app.mp s
        obtain ⟨s3, s4⟩ := SaysAll.two.mp s2
        have s3 := says_ge.mp s3
        have s4 := says_le.mp s4
        dsimp only at s3 s4
        exact ⟨s1, fun k => by rcases k with k | ⟨k, _⟩ <;> lia⟩
      · rename_i c2
        obtain ⟨i1, i2⟩ := broken_sound o hn r (acc ++ [⟨x, 1, loM (st.ms.getD x 0)⟩, ⟨y, 0, hiM (st.ms.getD y 0)⟩]) (fun p m => hr p (.tail _ m)) h2
        refine ⟨fun R e => ?_, fun e => ?_⟩
        · obtain ⟨a, b⟩ := i1 R e
          refine ⟨a, fun f s => ?_⟩
          obtain ⟨s0, nk⟩ := b f s
          obtain ⟨s1, s2⟩ := SaysAll.app.mp s0
          obtain ⟨s3, s4⟩ := SaysAll.two.mp s2
          have s3 := says_ge.mp s3
          have s4 := says_le.mp s4
          dsimp only at s3 s4
          exact ⟨s1, fun k => by
            rcases k with k | ⟨_, k⟩
            · lia
            · exact nk k⟩
        · obtain ⟨a, b⟩ := i2 e
          refine ⟨a, fun f s => ?_⟩
          obtain ⟨s0, nk⟩ := b f s
          obtain ⟨s1, s2⟩ := SaysAll.app.mp s0
          obtain ⟨s3, s4⟩ := SaysAll.two.mp s2
          have s3 := says_ge.mp s3
          have s4 := says_le.mp s4
          dsimp only at s3 s4
          exact ⟨s1, fun k => by
            rcases k with k | ⟨_, k⟩
            · lia
            · exact nk k⟩
theorem brokenS_sound (o : Okk st) (hn : st.ms.length = n) {r : List (Nat × Nat)} (hr : ∀ p ∈ r, p.1 < n ∧ p.2 < n) :
    Hold n st ((brokenS alike st.ms r).getD []) ∧ ((brokenS alike st.ms r).isSome = true → ∀ f, SaysAll ((brokenS alike st.ms r).getD []) f → ¬ LexK alike r f) := by
  obtain ⟨i1, i2⟩ := broken_sound (alike := alike) o hn r [] hr (fun _ m => nM m)
  unfold brokenS
  induction hb : brokenL st.ms r [] with
  | mk out acc =>
    rw [hb] at i1 i2
    induction out with
    | some R =>
      induction R with
      | none => exact ⟨(fun _ m => nM m), fun h => nB h⟩
      | some R =>
        obtain ⟨a, b⟩ := i1 R rfl
        exact ⟨a, fun _ f s => (b f s).2⟩
    | none =>
      obtain ⟨a, b⟩ := i2 rfl
      induction alike with
      | true => exact ⟨(fun _ m => nM m), fun h => nB h⟩
      | false => exact ⟨a, fun _ f s k => by have := (b f s).2 k; injection this⟩
noncomputable def PassOk (K : List Int → Prop) (n : Nat) (st : St) (r : Bool × St) : Prop :=
  (r.1 = true → Path K n st r.2) ∧ (r.1 = false → ∃ sta R, Path K n st sta ∧ Bad K n sta R ∧ r.2 = { sta with failed := true, clash := R })
theorem Hold.path {K : List Int → Prop} {R : List Lit} (h : Hold n st R) (pa : Path K n st st1) (o : Okk st) (hn : st.ms.length = n) : Hold n st1 R := fun r m => ⟨(h r m).1, pa.holds o hn (h r m).2⟩
theorem strike_step {K : List Int → Prop} {l : Lit} {R : List Lit} {k : St → Bool × St} (o : Okk st) (hn : st.ms.length = n) (s : Sound K n st l R)
    (hk : ∀ st1, enterS st l (some R) = (true, st1) → PassOk K n st1 (k st1)) : PassOk K n st (match enterS st l (some R) with | (false, st1) => (false, st1) | (true, st1) => k st1) := by
  induction e : enterS st l (some R) with
  | mk b st1 =>
    induction b with
    | false =>
      obtain ⟨a, b⟩ := enter_bad o hn s e
      exact ⟨(fun h => by simp at h), fun _ => ⟨st, _, .refl _, a, b⟩⟩
    | true =>
      obtain ⟨a, b⟩ := hk st1 e
      refine ⟨fun h => (Path.one s e).trans (a h), fun h => ?_⟩
      refine hide fun G hG => ?_
      obtain ⟨sta, R', pa, bd, eq⟩ := b h
      refine hG ?_
      exact ⟨sta, R', (Path.one s e).trans pa, bd, eq⟩
noncomputable def endL (alike : Bool) (q : Option Bool × List Lit × St) : Bool × St := match q with
  | (some b, _, st') => (b, st')
  | (none, ahead, st') => if alike then (true, st') else (false, { st' with failed := true, clash := ahead })
theorem goS_end {ps : List (Nat × Nat)} : goS alike ps st = endL alike (goL alike ps [] st) := rfl
theorem go_pass {K : List Int → Prop} : ∀ (r : List (Nat × Nat)) (ahead : List Lit) (st : St), Okk st → st.ms.length = n → (∀ p ∈ r, p.1 < n ∧ p.2 < n) → ahead.length + 4 * r.length ≤ 500 → Hold n st ahead →
    (∀ p : List Int, p.length = n → K p → SaysAll ahead (fun x => p.getD x 0) → LexK alike r (fun x => p.getD x 0)) → PassOk K n st (endL alike (goL alike r ahead st))
  | [] => @fun ahead st o hn _ hl ha hK => by
    induction alike with
    | true => exact ⟨fun _ => .refl _, fun h => by exact nB (Eq.symm h)⟩
    | false =>
      refine ⟨(fun h => nB h), fun _ => ⟨st, ahead, .refl _, ⟨ha, by simp at hl; lia, fun p hp hk => ?_⟩, rfl⟩⟩
      induction h : hasAll ahead p with
      | false => rfl
      | true => have := hK p hp hk (hasAll_iff.mp h); injection this
  | (x, y) :: r => @fun ahead st o hn hr hl ha hK => by
    refine hide fun G hG => ?_
    obtain ⟨hx, hy⟩ := hr (x, y) (.head _)
    dsimp only at hx hy
    have hr' : ∀ p ∈ r, p.1 < n ∧ p.2 < n := fun p m => hr p (.tail _ m)
    obtain ⟨B1, B2⟩ := brokenS_sound (alike := alike) o hn hr'
    have BL := brokenS_len (alike := alike) (ms := st.ms) (r := r)
    obtain ⟨a1, a2, a3, a4, a5, a6, a7⟩ := okLo o hn hx
    obtain ⟨b1, b2, b3, b4, b5, b6, b7⟩ := okLo o hn hy
    have hlo := hold_lo o hn hx
    have hhi := hold_hi o hn hy
    have e0 : endL alike (goL alike ((x, y) :: r) ahead st) = (match enterS st ⟨x, 0, hiM (st.ms.getD y 0) - (if (brokenS alike st.ms r).isSome then 1 else 0)⟩ (some (ahead ++ [⟨y, 0, hiM (st.ms.getD y 0)⟩] ++ (brokenS alike st.ms r).getD [])) with
        | (false, st1) => (false, st1)
        | (true, st1) => match enterS st1 ⟨y, 1, loM (st.ms.getD x 0) + (if (brokenS alike st.ms r).isSome then 1 else 0)⟩ (some (ahead ++ [⟨x, 1, loM (st.ms.getD x 0)⟩] ++ (brokenS alike st.ms r).getD [])) with
          | (false, st2) => (false, st2)
          | (true, st2) => if loM (st.ms.getD x 0) < hiM (st.ms.getD y 0) then (true, st2) else endL alike (goL alike r (ahead ++ [⟨x, 1, loM (st.ms.getD x 0)⟩, ⟨y, 0, hiM (st.ms.getD y 0)⟩]) st2)) := by
      rw [goL]
      generalize enterS st ⟨x, 0, hiM (st.ms.getD y 0) - (if (brokenS alike st.ms r).isSome then 1 else 0)⟩ (some (ahead ++ [⟨y, 0, hiM (st.ms.getD y 0)⟩] ++ (brokenS alike st.ms r).getD [])) = q1
      obtain ⟨b1, s1⟩ := q1
      induction b1 with
      | false => rfl
      | true =>
        dsimp only
        generalize enterS s1 ⟨y, 1, loM (st.ms.getD x 0) + (if (brokenS alike st.ms r).isSome then 1 else 0)⟩ (some (ahead ++ [⟨x, 1, loM (st.ms.getD x 0)⟩] ++ (brokenS alike st.ms r).getD [])) = q2
        obtain ⟨b2, s2⟩ := q2
        induction b2 with
        | false => rfl
        | true =>
          dsimp only
          split <;> rfl
    refine hG ?_
    rw [e0]
    refine hide fun G hG => ?_
    obtain ⟨g, hg, hg0, hg1, hgB⟩ : ∃ g : Int, (if (brokenS alike st.ms r).isSome = true then (1 : Int) else 0) = g ∧ 0 ≤ g ∧ g ≤ 1 ∧ (g = 1 → (brokenS alike st.ms r).isSome = true) := by
      split
      · rename_i h; exact ⟨1, rfl, by decide, by decide, fun _ => h⟩
      · exact ⟨0, rfl, by decide, by decide, fun h => by cases h⟩
    refine hG ?_
    rw [hg]
    generalize brokenS alike st.ms r = br at *
    generalize hL : loM (st.ms.getD x 0) = lo at *
    generalize hH : hiM (st.ms.getD y 0) = hi at *
    have gone : ∀ p : List Int, g = 1 → SaysAll (br.getD []) (fun x => p.getD x 0) → ¬ LexK alike r (fun x => p.getD x 0) := fun p h s => B2 (hgB h) _ s
    refine strike_step o hn ⟨⟨hx, by show 0 < 4; decide, by show -2 ≤ hi - g; lia, by show hi - g ≤ 5; lia⟩, (ha.app hhi).app B1, by simp at hl ⊢; lia, fun p hp hk h => ?_⟩ fun st1 e1 => ?_
    · obtain ⟨s1, s2⟩ := SaysAll.app.mp (hasAll_iff.mp h)
      obtain ⟨s3, s4⟩ := SaysAll.app.mp s1
      have s5 := says_le.mp (SaysAll.one.mp s4)
      refine says_le.mpr ?_
      dsimp only at s5 ⊢
      rcases hK p hp hk s3 with k | ⟨k, k'⟩
      · have : p.getD x 0 < p.getD y 0 := k
        lia
      · have k : p.getD x 0 = p.getD y 0 := k
        by_cases hg' : g = 1
        · exact absurd k' (gone p hg' s2)
        · lia
    · have lk1 : Lit.ok ⟨x, 0, hi - g⟩ n := ⟨hx, by show 0 < 4; decide, by show -3 ≤ hi - g; lia, by show hi - g ≤ 6; lia⟩
      obtain ⟨o1, n1⟩ := o.next hn lk1 e1
      have mono : ∀ {R : List Lit}, Hold n st R → Hold n st1 R := fun h r m => ⟨(h r m).1, fun v hv => (h r m).2 v ((enter_dom o hn lk1 e1 _ _).mp hv).1⟩
      refine strike_step o1 n1 ⟨⟨hy, by show 1 < 4; decide, by show -2 ≤ lo + g; lia, by show lo + g ≤ 5; lia⟩, ((mono ha).app (mono hlo)).app (mono B1), by simp at hl ⊢; lia, fun p hp hk h => ?_⟩ fun st2 e2 => ?_
      · obtain ⟨s1, s2⟩ := SaysAll.app.mp (hasAll_iff.mp h)
        obtain ⟨s3, s4⟩ := SaysAll.app.mp s1
        have s5 := says_ge.mp (SaysAll.one.mp s4)
        refine says_ge.mpr ?_
        dsimp only at s5 ⊢
        rcases hK p hp hk s3 with k | ⟨k, k'⟩
        · have : p.getD x 0 < p.getD y 0 := k
          lia
        · have k : p.getD x 0 = p.getD y 0 := k
          by_cases hg' : g = 1
          · exact absurd k' (gone p hg' s2)
          · lia
      · have lk2 : Lit.ok ⟨y, 1, lo + g⟩ n := ⟨hy, by show 1 < 4; decide, by show -3 ≤ lo + g; lia, by show lo + g ≤ 6; lia⟩
        obtain ⟨o2, n2⟩ := o1.next n1 lk2 e2
        have mono2 : ∀ {R : List Lit}, Hold n st1 R → Hold n st2 R := fun h r m => ⟨(h r m).1, fun v hv => (h r m).2 v ((enter_dom o1 n1 lk2 e2 _ _).mp hv).1⟩
        by_cases c : lo < hi
        · rw [if_pos c]
          exact ⟨fun _ => .refl _, fun h => by exact nB (Eq.symm h)⟩
        · rw [if_neg c]
          refine go_pass r (ahead ++ [⟨x, 1, lo⟩, ⟨y, 0, hi⟩]) st2 o2 n2 hr' (by simp at hl ⊢; lia) (mono2 (mono (ha.app (show Hold n st [⟨x, 1, lo⟩, ⟨y, 0, hi⟩] from hlo.app hhi)))) fun p hp hk s => ?_
          obtain ⟨s1, s2⟩ := SaysAll.app.mp s
          obtain ⟨s3, s4⟩ := SaysAll.two.mp s2
          have s3 := says_ge.mp s3
          have s4 := says_le.mp s4
          dsimp only at s3 s4
          rcases hK p hp hk s1 with k | ⟨_, k⟩
          · have : p.getD x 0 < p.getD y 0 := k
            lia
          · exact k
end
end Mine.Internal.P
namespace Mine.Internal.P
section
variable {K : List Int → Prop} {n : Nat} {st st1 st2 : St} {alike : Bool}
noncomputable def bindP (r : Bool × St) (k : St → Bool × St) : Bool × St := match r with
  | (false, s1) => (false, s1)
  | (true, s1) => k s1
theorem PassOk.bind {r : Bool × St} {k : St → Bool × St} (h : PassOk K n st r) (hk : ∀ st1, r = (true, st1) → PassOk K n st1 (k st1)) : PassOk K n st (bindP r k) := by
  obtain ⟨b, s1⟩ := r
  induction b with
  | false => exact h
  | true =>
    obtain ⟨a, b⟩ := hk s1 rfl
    have p := h.1 rfl
    refine ⟨fun e => p.trans (a e), fun e => ?_⟩
    refine hide fun G hG => ?_
    obtain ⟨sta, R, pa, bd, eq⟩ := b e
    refine hG ?_
    exact ⟨sta, R, p.trans pa, bd, eq⟩
noncomputable def IncK (n : Nat) (p : List Int) : Prop := ∀ j, j + 1 < n → p.getD j 0 ≤ p.getD (j + 1) 0
theorem fwd_pass : ∀ (ks : List Nat) (st : St), Okk st → st.ms.length = n → (∀ j ∈ ks, j + 1 < n) → PassOk (IncK n) n st (fwdS ks st)
  | [] => @fun st o hn _ => ⟨fun _ => .refl _, fun h => by exact nB (Eq.symm h)⟩
  | j :: r => @fun st o hn hk => by
    have hj := hk j (.head _)
    refine hide fun G hG => ?_
    obtain ⟨a1, a2, a3, a4, a5, a6, a7⟩ := okLo o hn (x := j) (by omega)
    have hlo := hold_lo o hn (x := j) (by omega)
    refine hG ?_
    unfold fwdS
    refine strike_step (k := fwdS r) o hn ⟨⟨hj, by show 1 < 4; decide, by show -2 ≤ loM _; omega, by show loM _ ≤ 5; omega⟩, hlo, by simp, fun p hp hK h => ?_⟩ fun st1 e => ?_
    · have s := says_ge.mp (SaysAll.one.mp (hasAll_iff.mp h))
      have := hK j hj
      refine says_ge.mpr ?_
      dsimp only at s ⊢
      omega
    · obtain ⟨o1, n1⟩ := o.next hn ⟨hj, by show 1 < 4; decide, by show -3 ≤ loM _; omega, by show loM _ ≤ 6; omega⟩ e
      exact fwd_pass r st1 o1 n1 fun i m => hk i (.tail _ m)
theorem bwd_pass : ∀ (ks : List Nat) (st : St), Okk st → st.ms.length = n → (∀ j ∈ ks, j + 1 < n) → PassOk (IncK n) n st (bwdS ks st)
  | [] => @fun st o hn _ => ⟨fun _ => .refl _, fun h => by exact nB (Eq.symm h)⟩
  | j :: r => @fun st o hn hk => by
    have hj := hk j (.head _)
    refine hide fun G hG => ?_
    obtain ⟨a1, a2, a3, a4, a5, a6, a7⟩ := okLo o hn (x := j + 1) hj
    have hhi := hold_hi o hn (x := j + 1) hj
    refine hG ?_
    unfold bwdS
    refine strike_step (k := bwdS r) o hn ⟨⟨by show j < n; omega, by show 0 < 4; decide, by show -2 ≤ hiM _; omega, by show hiM _ ≤ 5; omega⟩, hhi, by simp, fun p hp hK h => ?_⟩ fun st1 e => ?_
    · have s := says_le.mp (SaysAll.one.mp (hasAll_iff.mp h))
      have := hK j hj
      refine says_le.mpr ?_
      dsimp only at s ⊢
      omega
    · obtain ⟨o1, n1⟩ := o.next hn ⟨by show j < n; omega, by show 0 < 4; decide, by show -3 ≤ hiM _; omega, by show hiM _ ≤ 6; omega⟩ e
      exact bwd_pass r st1 o1 n1 fun i m => hk i (.tail _ m)
theorem inc_pass (o : Okk st) (hn : st.ms.length = n) : PassOk (IncK n) n st (incS n st) := by
  have F := fwd_pass (List.range (n - 1)) st o hn fwd_idx
  have e0 : incS n st = bindP (fwdS (List.range (n - 1)) st) fun s1 => bwdS ((List.range (n - 1)).map fun j => n - 2 - j) s1 := by
    unfold incS bindP
    induction fwdS (List.range (n - 1)) st with
    | mk b s1 => rcases b with _ | _ <;> rfl
  rw [e0]
  refine PassOk.bind F fun st1 e => ?_
  rw [e] at F
  obtain ⟨o1, n1⟩ := (F.1 rfl).okk o hn
  exact bwd_pass _ st1 o1 n1 bwd_idx
theorem prop_pass {pass : St → Bool × St} (hp : ∀ st, Okk st → st.ms.length = n → PassOk K n st (pass st)) : ∀ (f : Nat) (st : St), Okk st → st.ms.length = n → PassOk K n st (propS pass f st)
  | 0 => @fun st o hn => ⟨fun _ => .refl _, fun h => by injection h⟩
  | f + 1 => @fun st o hn => by
    have e0 : propS pass (f + 1) st = bindP (pass st) fun s1 => if st.tr.length < s1.tr.length then propS pass f s1 else (true, s1) := by
      rw [propS]
      unfold bindP
      induction pass st with
      | mk b s1 => rcases b with _ | _ <;> rfl
    rw [e0]
    refine PassOk.bind (hp st o hn) fun st1 e => ?_
    have h := hp st o hn
    rw [e] at h
    obtain ⟨o1, n1⟩ := (h.1 rfl).okk o hn
    split
    · exact prop_pass hp f st1 o1 n1
    · exact ⟨fun _ => .refl _, fun h => by injection h⟩
theorem Path.still (pa : Path K n st st1) (o : Okk st) (hn : st.ms.length = n) (h : ¬ st.tr.length < st1.tr.length) : st1 = st := by
  obtain ⟨es, h1, _, _, _, _, _, h7⟩ := pa.ents o hn (good := []) (fun _ m => nM m)
  refine h7 ?_
  induction es with
  | nil => rfl
  | cons e es => rw [h1] at h; simp at h
theorem prop_fix {pass : St → Bool × St} (hp : ∀ st, Okk st → st.ms.length = n → PassOk K n st (pass st)) : ∀ (f : Nat) (st : St), Okk st → st.ms.length = n → 30 < st.tr.length + f → (propS pass f st).1 = true → pass (propS pass f st).2 = (true, (propS pass f st).2)
  | 0 => @fun st o hn hf _ => absurd o.t (by omega)
  | f + 1 => @fun st o hn hf h => by
    have hps := hp st o hn
    unfold propS at h ⊢
    induction e : pass st with
    | mk b st1 =>
      rw [e] at h hps
      induction b with
      | false => exact nB h
      | true =>
        obtain ⟨o1, n1⟩ := (hps.1 rfl).okk o hn
        dsimp only at h ⊢
        by_cases c : st.tr.length < st1.tr.length
        · rw [if_pos c] at h ⊢
          exact prop_fix hp f st1 o1 n1 (by omega) h
        · rw [if_neg c]
          have := (hps.1 rfl).still o hn c
          dsimp only at this
          subst this
          exact e
theorem prop_again {pass : St → Bool × St} {f : Nat} (h : pass st = (true, st)) : propS pass (f + 1) st = (true, st) := by
  unfold propS
  rw [h]
  dsimp only
  rw [if_neg (Nat.lt_irrefl _)]
theorem enter_mono {l : Lit} {rs : Option (List Lit)} : st.tr.length ≤ (enterS st l rs).2.tr.length := by
  unfold enterS
  dsimp only
  split
  · exact Nat.le_refl _
  · split
    · exact Nat.le_refl _
    · simp
theorem enter_fix (o : Okk st) (hn : st.ms.length = n) {l : Lit} (lo : l.ok n) {rs : Option (List Lit)} (e : enterS st l rs = (true, st1)) (h : st1.tr.length ≤ st.tr.length) : st1 = st ∧ ∀ v ∈ domS st l.x, saysL l v = true := by
  rcases enter_good o hn lo e with h' | rfl
  · exact h'
  · simp at h; lia
theorem fwd_mono : ∀ {ks : List Nat} {st : St}, st.tr.length ≤ (fwdS ks st).2.tr.length
  | [], st => Nat.le_refl _
  | j :: r, st => by
    unfold fwdS
    have h := enter_mono (st := st) (l := ⟨j + 1, 1, loM (st.ms.getD j 0)⟩) (rs := some [⟨j, 1, loM (st.ms.getD j 0)⟩])
    split
    · rename_i e; rw [e] at h; exact h
    · rename_i e; rw [e] at h; exact Nat.le_trans h fwd_mono
theorem bwd_mono : ∀ {ks : List Nat} {st : St}, st.tr.length ≤ (bwdS ks st).2.tr.length
  | [], st => Nat.le_refl _
  | j :: r, st => by
    unfold bwdS
    have h := enter_mono (st := st) (l := ⟨j, 0, hiM (st.ms.getD (j + 1) 0)⟩) (rs := some [⟨j + 1, 0, hiM (st.ms.getD (j + 1) 0)⟩])
    split
    · rename_i e; rw [e] at h; exact h
    · rename_i e; rw [e] at h; exact Nat.le_trans h bwd_mono
theorem fwd_fix : ∀ (ks : List Nat) (st st1 : St), Okk st → st.ms.length = n → (∀ j ∈ ks, j + 1 < n) → fwdS ks st = (true, st1) → st1.tr.length ≤ st.tr.length → st1 = st ∧ ∀ j ∈ ks, ∀ v ∈ domS st (j + 1), v ≥ loM (st.ms.getD j 0)
  | [] => @fun st st1 o hn _ e _ => by cases e; exact ⟨rfl, fun _ m => nM m⟩
  | j :: r => @fun st st1 o hn hk e h => by
    have hj := hk j (.head _)
    obtain ⟨a1, a2, a3, a4, a5, a6, a7⟩ := okLo o hn (x := j) (by omega)
    unfold fwdS at e
    split at e
    · cases e
    · rename_i sta e1
      have m := fwd_mono (ks := r) (st := sta)
      rw [e] at m
      obtain ⟨rfl, h1⟩ := enter_fix o hn ⟨hj, by show 1 < 4; decide, by show -3 ≤ loM _; omega, by show loM _ ≤ 6; omega⟩ e1 (by dsimp only at m; omega)
      obtain ⟨a, b⟩ := fwd_fix r sta st1 o hn (fun i m => hk i (.tail _ m)) e h
      refine ⟨a, fun i m => ?_⟩
      rcases List.mem_cons.mp m with rfl | m
      · exact fun v hv => says_ge.mp (h1 v hv)
      · exact b i m
theorem bwd_fix : ∀ (ks : List Nat) (st st1 : St), Okk st → st.ms.length = n → (∀ j ∈ ks, j + 1 < n) → bwdS ks st = (true, st1) → st1.tr.length ≤ st.tr.length → st1 = st ∧ ∀ j ∈ ks, ∀ v ∈ domS st j, v ≤ hiM (st.ms.getD (j + 1) 0)
  | [] => @fun st st1 o hn _ e _ => by cases e; exact ⟨rfl, fun _ m => nM m⟩
  | j :: r => @fun st st1 o hn hk e h => by
    have hj := hk j (.head _)
    obtain ⟨a1, a2, a3, a4, a5, a6, a7⟩ := okLo o hn (x := j + 1) hj
    unfold bwdS at e
    split at e
    · cases e
    · rename_i sta e1
      have m := bwd_mono (ks := r) (st := sta)
      rw [e] at m
      obtain ⟨rfl, h1⟩ := enter_fix o hn ⟨by show j < n; omega, by show 0 < 4; decide, by show -3 ≤ hiM _; omega, by show hiM _ ≤ 6; omega⟩ e1 (by dsimp only at m; omega)
      obtain ⟨a, b⟩ := bwd_fix r sta st1 o hn (fun i m => hk i (.tail _ m)) e h
      refine ⟨a, fun i m => ?_⟩
      rcases List.mem_cons.mp m with rfl | m
      · exact fun v hv => says_le.mp (h1 v hv)
      · exact b i m
theorem inc_rest (o : Okk st) (hn : st.ms.length = n) (h : incS n st = (true, st)) : ∀ j, j + 1 < n → loM (st.ms.getD j 0) ≤ loM (st.ms.getD (j + 1) 0) ∧ hiM (st.ms.getD j 0) ≤ hiM (st.ms.getD (j + 1) 0) := by
  unfold incS at h
  split at h
  · rcases h with ⟨⟩
  · rename_i st1 e1
    have m1 := fwd_mono (ks := List.range (n - 1)) (st := st)
    have m2 := bwd_mono (ks := (List.range (n - 1)).map fun j => n - 2 - j) (st := st1)
    rw [e1] at m1
    rw [h] at m2
    dsimp only at m1 m2
    obtain ⟨rfl, a⟩ := fwd_fix (List.range (n - 1)) st st1 o hn fwd_idx e1 m2
    obtain ⟨_, b⟩ := bwd_fix _ _ _ o hn bwd_idx h (Nat.le_refl _)
    intro j hj
    refine hide fun G hG => ?_
    obtain ⟨x1, x2, x3, _⟩ := okLo o hn (x := j) (by omega)
    obtain ⟨y1, y2, y3, _⟩ := okLo o hn (x := j + 1) hj
    refine hG ?_
    refine ⟨a j (List.mem_range.mpr (by omega)) _ y1, b j (List.mem_map.mpr ⟨n - 2 - j, List.mem_range.mpr (by omega), by omega⟩) _ x2⟩
end
end Mine.Internal.P
namespace Mine.Internal.P
noncomputable def Dis : List (Nat × Nat) → Prop
  | [] => True
  | (x, y) :: r => x ≠ y ∧ (∀ p ∈ r, p.1 ≠ x ∧ p.1 ≠ y ∧ p.2 ≠ x ∧ p.2 ≠ y) ∧ Dis r
noncomputable def upd (f : Nat → Int) (x : Nat) (v : Int) : Nat → Int := fun z => if z = x then v else f z
theorem upd_at {f : Nat → Int} {x : Nat} {v : Int} : upd f x v x = v := if_pos rfl
theorem upd_ne {f : Nat → Int} {x z : Nat} {v : Int} (h : z ≠ x) : upd f x v z = f z := if_neg h
theorem LexK.congr {alike : Bool} : ∀ {r : List (Nat × Nat)} {f g : Nat → Int}, (∀ p ∈ r, f p.1 = g p.1 ∧ f p.2 = g p.2) → LexK alike r f → LexK alike r g
  | [], f, g => @fun _ h => h
  | (x, y) :: r, f, g => @fun e h => by
    obtain ⟨a, b⟩ := e (x, y) (.head _)
    dsimp only at a b
    unfold LexK at h ⊢
    rw [← a, ← b]
    rcases h with h | ⟨h1, h2⟩
    · exact .inl h
    · exact .inr ⟨h1, LexK.congr (fun p m => e p (.tail _ m)) h2⟩
theorem LexK.upd2 {alike : Bool} {r : List (Nat × Nat)} {f : Nat → Int} {x y : Nat} {u v : Int} (d : ∀ p ∈ r, p.1 ≠ x ∧ p.1 ≠ y ∧ p.2 ≠ x ∧ p.2 ≠ y) (h : LexK alike r f) : LexK alike r (upd (upd f x u) y v) :=
  h.congr fun p m => by
    obtain ⟨a, b, c, e⟩ := d p m
    rw [upd_ne b, upd_ne a, upd_ne e, upd_ne c]; exact ⟨rfl, rfl⟩
section
variable {n : Nat} {st : St} {alike : Bool}
noncomputable def BoxF (n : Nat) (st : St) (f : Nat → Int) : Prop := ∀ x, x < n → f x ∈ domS st x
theorem BoxF.upd {f : Nat → Int} {x : Nat} {v : Int} (h : BoxF n st f) (hv : v ∈ domS st x) : BoxF n st (upd f x v) := fun z hz => by
  by_cases e : z = x
  · subst e; rw [upd_at]; exact hv
  · rw [upd_ne e]; exact h z hz
theorem box_lo (o : Okk st) (hn : st.ms.length = n) : BoxF n st (fun z => loM (st.ms.getD z 0)) := fun z hz => (okLo o hn hz).1
theorem goL_mono : ∀ {r : List (Nat × Nat)} {ahead : List Lit} {st : St}, st.tr.length ≤ (endL alike (goL alike r ahead st)).2.tr.length
  | [], ahead, st => by rcases alike with _ | _ <;> exact Nat.le_refl _
  | (x, y) :: r, ahead, st => by
    rw [goL]
    have h1 := enter_mono (st := st) (l := ⟨x, 0, hiM (st.ms.getD y 0) - (if (brokenS alike st.ms r).isSome then 1 else 0)⟩) (rs := some (ahead ++ [⟨y, 0, hiM (st.ms.getD y 0)⟩] ++ (brokenS alike st.ms r).getD []))
    generalize enterS st ⟨x, 0, hiM (st.ms.getD y 0) - (if (brokenS alike st.ms r).isSome then 1 else 0)⟩ (some (ahead ++ [⟨y, 0, hiM (st.ms.getD y 0)⟩] ++ (brokenS alike st.ms r).getD [])) = q1 at *
    obtain ⟨b1, s1⟩ := q1
    induction b1 with
    | false => exact h1
    | true =>
      dsimp only at h1 ⊢
      have h2 := enter_mono (st := s1) (l := ⟨y, 1, loM (st.ms.getD x 0) + (if (brokenS alike st.ms r).isSome then 1 else 0)⟩) (rs := some (ahead ++ [⟨x, 1, loM (st.ms.getD x 0)⟩] ++ (brokenS alike st.ms r).getD []))
      generalize enterS s1 ⟨y, 1, loM (st.ms.getD x 0) + (if (brokenS alike st.ms r).isSome then 1 else 0)⟩ (some (ahead ++ [⟨x, 1, loM (st.ms.getD x 0)⟩] ++ (brokenS alike st.ms r).getD [])) = q2 at *
      obtain ⟨b2, s2⟩ := q2
      induction b2 with
      | false => exact Nat.le_trans h1 h2
      | true =>
        dsimp only at h2 ⊢
        split
        · exact Nat.le_trans h1 h2
        · exact Nat.le_trans (Nat.le_trans h1 h2) goL_mono
theorem broken_none (o : Okk st) (hn : st.ms.length = n) : ∀ (r : List (Nat × Nat)) (acc : List Lit), Dis r → (∀ p ∈ r, p.1 < n ∧ p.2 < n) → ((brokenL st.ms r acc).1 = some none ∨ ((brokenL st.ms r acc).1 = none ∧ alike = true)) → ∃ f, BoxF n st f ∧ LexK alike r f
  | [] => @fun acc _ _ h => by
    refine ⟨_, box_lo o hn, ?_⟩
    rcases h with h | ⟨_, h⟩
    · injection h
    · exact h
  | (x, y) :: r => @fun acc d hr h => by
    obtain ⟨hx, hy⟩ := hr (x, y) (.head _)
    dsimp only at hx hy
    obtain ⟨d1, d2, d3⟩ := d
    have a := okLo o hn hx
    have b := okLo o hn hy
    rw [brokenL_c] at h
    by_cases c1 : loM (st.ms.getD x 0) < hiM (st.ms.getD y 0)
    · refine ⟨upd (upd (fun z => loM (st.ms.getD z 0)) x (loM (st.ms.getD x 0))) y (hiM (st.ms.getD y 0)), ((box_lo o hn).upd a.1).upd b.2.1, .inl ?_⟩
      rw [upd_ne d1, upd_at, upd_at]; exact c1
    · rw [if_neg c1] at h
      by_cases c2 : loM (st.ms.getD x 0) > hiM (st.ms.getD y 0)
      · rw [if_pos c2] at h
        rcases h with h | ⟨h, _⟩ <;> simp at h
      · rw [if_neg c2] at h
        obtain ⟨f, bf, lf⟩ := broken_none o hn r _ d3 (fun p m => hr p (.tail _ m)) h
        refine ⟨upd (upd f x (loM (st.ms.getD x 0))) y (hiM (st.ms.getD y 0)), (bf.upd a.1).upd b.2.1, .inr ⟨?_, lf.upd2 d2⟩⟩
        rw [upd_ne d1, upd_at, upd_at]; lia
theorem brokenS_none (o : Okk st) (hn : st.ms.length = n) {r : List (Nat × Nat)} (d : Dis r) (hr : ∀ p ∈ r, p.1 < n ∧ p.2 < n) (h : (brokenS alike st.ms r).isSome ≠ true) : ∃ f, BoxF n st f ∧ LexK alike r f := by
  refine broken_none o hn r [] d hr ?_
  unfold brokenS at h
  induction hb : brokenL st.ms r [] with
  | mk out acc =>
    rw [hb] at h
    induction out with
    | some R =>
      induction R with
      | none => exact .inl rfl
      | some R => exact absurd rfl h
    | none =>
      induction alike with
      | true => exact .inr ⟨rfl, rfl⟩
      | false => exact absurd rfl h
theorem lex_rest : ∀ (r : List (Nat × Nat)) (ahead : List Lit) (st : St), Okk st → st.ms.length = n → Dis r → (∀ p ∈ r, p.1 < n ∧ p.2 < n) → endL alike (goL alike r ahead st) = (true, st) →
    ∀ z, z < n → ∀ v ∈ domS st z, ∃ f, BoxF n st f ∧ f z = v ∧ LexK alike r f
  | [] => @fun ahead st o hn _ _ h z hz v hv => by
    refine ⟨upd (fun z => loM (st.ms.getD z 0)) z v, (box_lo o hn).upd hv, upd_at, ?_⟩
    induction alike with
    | true => rfl
    | false => injection h
  | (x, y) :: r => @fun ahead st o hn d hr h z hz v hv => by
    obtain ⟨hx, hy⟩ := hr (x, y) (.head _)
    dsimp only at hx hy
    obtain ⟨d1, d2, d3⟩ := d
    have hr' : ∀ p ∈ r, p.1 < n ∧ p.2 < n := fun p m => hr p (.tail _ m)
    obtain ⟨a1, a2, a3, a4, a5, a6, a7⟩ := okLo o hn hx
    obtain ⟨b1, b2, b3, b4, b5, b6, b7⟩ := okLo o hn hy
    have hbn := brokenS_none (alike := alike) o hn d3 hr'
    rw [goL] at h
    obtain ⟨g, hg, hg0, hg1, hgB⟩ : ∃ g : Int, (if (brokenS alike st.ms r).isSome = true then (1 : Int) else 0) = g ∧ 0 ≤ g ∧ g ≤ 1 ∧ (g = 0 → (brokenS alike st.ms r).isSome ≠ true) := by
      split
      · exact ⟨1, rfl, by decide, by decide, fun h => by cases h⟩
      · rename_i h; exact ⟨0, rfl, by decide, by decide, fun _ => h⟩
    rw [hg] at h
    generalize brokenS alike st.ms r = br at *
    have lk1 : Lit.ok ⟨x, 0, hiM (st.ms.getD y 0) - g⟩ n := ⟨hx, by show 0 < 4; decide, by show -3 ≤ hiM _ - g; lia, by show hiM _ - g ≤ 6; lia⟩
    have lk2 : Lit.ok ⟨y, 1, loM (st.ms.getD x 0) + g⟩ n := ⟨hy, by show 1 < 4; decide, by show -3 ≤ loM _ + g; lia, by show loM _ + g ≤ 6; lia⟩
    have m1 := enter_mono (st := st) (l := ⟨x, 0, hiM (st.ms.getD y 0) - g⟩) (rs := some (ahead ++ [⟨y, 0, hiM (st.ms.getD y 0)⟩] ++ br.getD []))
    induction e1 : enterS st ⟨x, 0, hiM (st.ms.getD y 0) - g⟩ (some (ahead ++ [⟨y, 0, hiM (st.ms.getD y 0)⟩] ++ br.getD [])) with
    | mk c1 s1 =>
      rw [e1] at h m1
      induction c1 with
      | false => cases h
      | true =>
        dsimp only at h m1
        have m2 := enter_mono (st := s1) (l := ⟨y, 1, loM (st.ms.getD x 0) + g⟩) (rs := some (ahead ++ [⟨x, 1, loM (st.ms.getD x 0)⟩] ++ br.getD []))
        induction e2 : enterS s1 ⟨y, 1, loM (st.ms.getD x 0) + g⟩ (some (ahead ++ [⟨x, 1, loM (st.ms.getD x 0)⟩] ++ br.getD [])) with
        | mk c2 s2 =>
          rw [e2] at h m2
          induction c2 with
          | false => cases h
          | true =>
            dsimp only at h m2
            have m3 : s2.tr.length ≤ st.tr.length := by
              split at h
              · have := congrArg (fun q : Bool × St => q.2.tr.length) h
                exact Nat.le_of_eq this
              · have q := goL_mono (alike := alike) (r := r) (ahead := ahead ++ [⟨x, 1, loM (st.ms.getD x 0)⟩, ⟨y, 0, hiM (st.ms.getD y 0)⟩]) (st := s2)
                rw [h] at q
                exact q
            obtain ⟨E1, X⟩ := enter_fix o hn lk1 e1 (by lia)
            subst E1
            obtain ⟨E2, Y⟩ := enter_fix o hn lk2 e2 (by lia)
            subst E2
            have X' : ∀ v ∈ domS s2 x, v ≤ hiM (s2.ms.getD y 0) - g := fun v hv => says_le.mp (X v hv)
            have Y' : ∀ v ∈ domS s2 y, v ≥ loM (s2.ms.getD x 0) + g := fun v hv => says_ge.mp (Y v hv)
            clear X Y
            by_cases c : loM (s2.ms.getD x 0) < hiM (s2.ms.getD y 0)
            · by_cases zx : z = x
              · subst zx
                have := X' v hv
                by_cases q : v < hiM (s2.ms.getD y 0)
                · refine ⟨upd (upd (fun z => loM (s2.ms.getD z 0)) z v) y (hiM (s2.ms.getD y 0)), ((box_lo o hn).upd hv).upd b2, by rw [upd_ne d1, upd_at], .inl ?_⟩
                  rw [upd_ne d1, upd_at, upd_at]; exact q
                · have g0 : g = 0 := by lia
                  obtain ⟨f, bf, lf⟩ := hbn (hgB g0)
                  refine ⟨upd (upd f z v) y (hiM (s2.ms.getD y 0)), (bf.upd hv).upd b2, by rw [upd_ne d1, upd_at], .inr ⟨?_, lf.upd2 d2⟩⟩
                  rw [upd_ne d1, upd_at, upd_at]; lia
              · by_cases zy : z = y
                · subst zy
                  have := Y' v hv
                  by_cases q : loM (s2.ms.getD x 0) < v
                  · refine ⟨upd (upd (fun z => loM (s2.ms.getD z 0)) x (loM (s2.ms.getD x 0))) z v, ((box_lo o hn).upd a1).upd hv, upd_at, .inl ?_⟩
                    rw [upd_ne d1, upd_at, upd_at]; exact q
                  · have g0 : g = 0 := by lia
                    obtain ⟨f, bf, lf⟩ := hbn (hgB g0)
                    refine ⟨upd (upd f x (loM (s2.ms.getD x 0))) z v, (bf.upd a1).upd hv, upd_at, .inr ⟨?_, lf.upd2 d2⟩⟩
                    rw [upd_ne d1, upd_at, upd_at]; lia
                · refine ⟨upd (upd (upd (fun z => loM (s2.ms.getD z 0)) z v) x (loM (s2.ms.getD x 0))) y (hiM (s2.ms.getD y 0)), (((box_lo o hn).upd hv).upd a1).upd b2, by rw [upd_ne zy, upd_ne zx, upd_at], .inl ?_⟩
                  rw [upd_ne d1, upd_at, upd_at]; exact c
            · rw [if_neg c] at h
              obtain ⟨f, bf, fz, lf⟩ := lex_rest r _ s2 o hn d3 hr' h z hz v hv
              refine ⟨f, bf, fz, .inr ⟨?_, lf⟩⟩
              have fx := bf x hx
              have fy := bf y hy
              have x1 := X' _ fx
              have x2 := Y' _ fy
              have x3 := X' _ a1
              have x4 := Y' _ b2
              have x5 := a3 _ fx
              have x6 := b3 _ fy
              lia
end
end Mine.Internal.P
namespace Mine.Internal.P
theorem mem_fold : ∀ {lots : List (List Int)} {found : List (List Int)} {p : List Int}, p ∈ lots.foldl nextPts found ↔ ∃ q ∈ found, ∃ s, p = q ++ s ∧ s.length = lots.length ∧ ∀ x, x < lots.length → s.getD x 0 ∈ lots.getD x []
  | [], found, p => by
    constructor
    · exact fun h => ⟨p, h, [], by simp, rfl, fun x hx => by simp at hx⟩
    · rintro ⟨q, hq, s, rfl, hs, _⟩
      have : s = [] := List.eq_nil_of_length_eq_zero hs
      subst this
      simpa using hq
  | l :: lots, found, p => by
    rw [List.foldl_cons, mem_fold]
    constructor
    · rintro ⟨q, hq, s, rfl, hs, h⟩
      obtain ⟨q0, hq0, hq⟩ := List.mem_flatMap.mp hq
      obtain ⟨v, hv, rfl⟩ := List.mem_map.mp hq
      refine ⟨q0, hq0, v :: s, by simp, by simp [hs], fun x hx => ?_⟩
      induction x with
      | zero => simpa using hv
      | succ x => simpa using h x (by simpa using hx)
    · rintro ⟨q, hq, s, rfl, hs, h⟩
      induction s with
      | nil => simp at hs
      | cons v s =>
        refine ⟨q ++ [v], List.mem_flatMap.mpr ⟨q, hq, List.mem_map.mpr ⟨v, by simpa using h 0 (by simp), rfl⟩⟩, s, by simp, by simpa using hs, fun x hx => by simpa using h (x + 1) (by simpa using hx)⟩
theorem mem_points {lots : List (List Int)} {p : List Int} : p ∈ pointsI lots ↔ p.length = lots.length ∧ ∀ x, x < lots.length → p.getD x 0 ∈ lots.getD x [] := by
  unfold pointsI
  rw [mem_fold]
  constructor
  · rintro ⟨q, hq, s, rfl, hs, h⟩
    rw [List.mem_singleton.mp hq]
    exact ⟨by simpa using hs, by simpa using h⟩
  · rintro ⟨a, b⟩
    exact ⟨[], by simp, p, by simp, a, b⟩
theorem mem_good {F : List Nat} {kind split : Nat} {p : List Int} : p ∈ goodI F kind split ↔ p.length = F.length ∧ Box F p ∧ keepsI kind split p = true := by
  unfold goodI
  rw [List.mem_filter, mem_points]
  have e : ∀ x, x < F.length → (F.map lotI).getD x [] = lotI (F.getD x 0) := fun x hx => by
    simp [List.getD_eq_getElem?_getD, List.getElem?_eq_getElem hx]
  constructor
  · rintro ⟨⟨a, b⟩, c⟩
    exact ⟨by simpa using a, fun x hx => by rw [← e x hx]; exact b x (by simpa using hx), c⟩
  · rintro ⟨a, b, c⟩
    exact ⟨⟨by simpa using a, fun x hx => by rw [e x (by simpa using hx)]; exact b x (by simpa using hx)⟩, c⟩
theorem inBox_iff {D : List Nat} {p : List Int} : inBox D p = true ↔ Box D p := by
  unfold inBox Box
  simp [List.all_eq_true]
noncomputable def listOf (n : Nat) (f : Nat → Int) : List Int := (List.range n).map f
theorem listOf_len {n : Nat} {f : Nat → Int} : (listOf n f).length = n := by simp [listOf]
theorem listOf_at {n x : Nat} {f : Nat → Int} (h : x < n) : (listOf n f).getD x 0 = f x := by
  simp [listOf, List.getD_eq_getElem?_getD, List.getElem?_range h, h]
theorem box_of {n : Nat} {st : St} (hn : st.ms.length = n) {f : Nat → Int} (b : BoxF n st f) : Box st.ms (listOf n f) := fun x hx => by
  rw [listOf_at (by rw [← hn]; exact hx)]
  exact b x (by rw [← hn]; exact hx)
theorem setMs_eq {is : List Int} {m : Nat} (h : ∀ i : Nat, i < 4 → ((i : Int) ∈ is ↔ (i : Int) ∈ lotI m)) : lotI m = setMs is := by
  unfold setMs lotI valsM
  show (List.filter _ _).map (fun (v : Nat) => (v : Int)) = (List.filter _ _).map (fun (v : Nat) => (v : Int))
  congr 1
  refine List.filter_congr fun i hi => ?_
  have hi4 := List.mem_range.mp hi
  have a := h i hi4
  rw [lot_mem hi4] at a
  have b : (is.any (· == Int.ofNat i)) = true ↔ (i : Int) ∈ is := by
    rw [List.any_eq_true]
    constructor
    · rintro ⟨x, hx, e⟩
      have : x = (i : Int) := by simpa using e
      rw [← this]; exact hx
    · exact fun h => ⟨_, h, by simp⟩
  cases c : m.testBit i <;> cases d : is.any (· == Int.ofNat i)
  · rfl
  · exact absurd (a.mp (b.mp d)) (by rw [c]; simp)
  · exact absurd (b.mpr (a.mpr c)) (by rw [d]; simp)
  · rfl
theorem setMs_sub {is : List Int} {v : Int} (h : v ∈ setMs is) : v ∈ is := by
  unfold setMs at h
  obtain ⟨i, hi, rfl⟩ := List.mem_map.mp h
  obtain ⟨x, hx, e⟩ := List.any_eq_true.mp (List.mem_filter.mp hi).2
  have : x = Int.ofNat i := by simpa using e
  rw [← this]; exact hx
section
variable {K : List Int → Prop} {n kind split : Nat} {F : List Nat} {pass : St → Bool × St} {st : St}
theorem mem_before (hn : st.ms.length = n) (hF : F.length = n) (hsub : ∀ x v, v ∈ domS st x → v ∈ lotI (F.getD x 0)) {p : List Int} : p ∈ (goodI F kind split).filter (inBox st.ms) ↔ p.length = n ∧ Box st.ms p ∧ keepsI kind split p = true := by
  rw [List.mem_filter, mem_good, inBox_iff]
  constructor
  · rintro ⟨⟨a, b, c⟩, d⟩
    exact ⟨by rw [a, hF], d, c⟩
  · rintro ⟨a, b, c⟩
    exact ⟨⟨by rw [a, hF], fun x hx => hsub x _ (b x (by rw [hn, ← hF]; exact hx)), c⟩, b⟩
structure Facts (n kind split : Nat) (F : List Nat) (pass : St → Bool × St) (st : St) (r : Bool × St) (bf : List (List Int)) : Prop where
  verdict : r.1 = !bf.isEmpty
  failed : r.2.failed = bf.isEmpty
  len : r.2.ms.length = n
  okay : Ok r.2
  ents : ∃ es, r.2.tr = st.tr ++ es ∧ ChainP (goodI F kind split) st.ms es ∧ restore es r.2.ms = st.ms ∧ ∀ e ∈ es, e.x < n
  rest : r.1 = true → Okk r.2 ∧ pass r.2 = (true, r.2) ∧ ∀ p ∈ bf, Box r.2.ms p
  sub : ∀ x v, v ∈ domS r.2 x → v ∈ domS st x
  clash : r.1 = false → (∀ l ∈ r.2.clash, l.ok n ∧ saidI (r.2.ms.getD l.x 0) l.sg l.k = 1) ∧ r.2.clash.length ≤ 2000 ∧ ∀ p ∈ goodI F kind split, hasAll r.2.clash p = false
theorem facts (hp : ∀ st, Okk st → st.ms.length = n → PassOk K n st (pass st)) (hrest : ∀ st, Okk st → st.ms.length = n → pass st = (true, st) → ∃ f, BoxF n st f ∧ K (listOf n f)) (hK : ∀ p : List Int, p.length = n → (keepsI kind split p = true ↔ K p))
    (o : Okk st) (hn : st.ms.length = n) (hF : F.length = n) (hsub : ∀ x v, v ∈ domS st x → v ∈ lotI (F.getD x 0)) (hf : st.failed = false) : Facts n kind split F pass st (propS pass 63 st) ((goodI F kind split).filter (inBox st.ms)) := by
  have P := prop_pass hp 63 st o hn
  have hg : ∀ p ∈ goodI F kind split, p.length = n ∧ K p := fun p m => by
    obtain ⟨a, b, c⟩ := mem_good.mp m
    rw [hF] at a
    exact ⟨a, (hK p a).mp c⟩
  induction hr : propS pass 63 st with
  | mk b s2 =>
    rw [hr] at P
    induction b with
    | true =>
      have pa := P.1 rfl
      dsimp only at pa
      obtain ⟨o2, n2⟩ := pa.okk o hn
      obtain ⟨es, h1, h2, h3, h4, h5, h6, _⟩ := pa.ents o hn hg
      have fx := prop_fix hp 63 st o hn (by lia) (by rw [hr])
      rw [hr] at fx
      dsimp only at fx
      obtain ⟨f, bf, kf⟩ := hrest s2 o2 n2 fx
      have hne : (goodI F kind split).filter (inBox st.ms) ≠ [] := by
        have : listOf n f ∈ (goodI F kind split).filter (inBox st.ms) := (mem_before hn hF hsub).mpr ⟨listOf_len, fun x hx => pa.sub o hn (box_of n2 bf x (by rw [n2, ← hn]; exact hx)), (hK _ listOf_len).mpr kf⟩
        exact List.ne_nil_of_mem this
      have he : ((goodI F kind split).filter (inBox st.ms)).isEmpty = false := by
        induction h : (goodI F kind split).filter (inBox st.ms) with
        | nil => exact absurd h hne
        | cons => rfl
      exact ⟨by rw [he]; rfl, by rw [he, h5, hf], n2, o2.ok, ⟨es, h1, h2, h3, h4⟩, fun _ => ⟨o2, fx, fun p m => by
        obtain ⟨a, b, c⟩ := (mem_before hn hF hsub).mp m
        exact pa.keep o hn a ((hK p a).mp c) b⟩, fun x v h => pa.sub o hn h, (fun h => by injection h)⟩
    | false =>
      obtain ⟨sta, R, pa, bd, eq⟩ := P.2 rfl
      dsimp only at eq
      obtain ⟨o2, n2⟩ := pa.okk o hn
      obtain ⟨es, h1, h2, h3, h4, h5, h6, _⟩ := pa.ents o hn hg
      have he : ((goodI F kind split).filter (inBox st.ms)).isEmpty = true := by
        rw [List.isEmpty_iff]
        refine List.eq_nil_iff_forall_not_mem.mpr fun p m => ?_
        obtain ⟨a, b, c⟩ := (mem_before hn hF hsub).mp m
        have k := (hK p a).mp c
        have b2 := pa.keep o hn a k b
        have := hasAll_of (R := R) (st := sta) (fun r hr => ⟨(bd.rok r hr).1.1, (bd.rok r hr).2⟩) n2 b2
        rw [bd.no p a k] at this
        injection this
      subst eq
      refine ⟨by rw [he]; rfl, by rw [he], n2, ⟨o2.m, o2.ok.n, o2.ok.t⟩, ⟨es, h1, h2, h3, h4⟩, (fun h => by injection h), fun x v h => pa.sub o hn h, fun _ => ⟨fun l hl => ⟨(bd.rok l hl).1, ?_⟩, by have := bd.len; show R.length ≤ 2000; lia, fun p m => bd.no p (hg p m).1 (hg p m).2⟩⟩
      obtain ⟨lk, lh⟩ := bd.rok l hl
      have hm := o2.ok.at (x := l.x) (by rw [n2]; exact lk.1)
      unfold saidI
      rw [if_pos ((strike_all hm.1 lk.2.1 lk.2.2).mpr lh)]
end
end Mine.Internal.P
namespace Mine.Internal.P
noncomputable def lexOf (alike : Bool) (ps : List (Nat × Nat)) (p : List Int) : Prop := LexK alike ps (fun x => p.getD x 0)
@[elab_as_elim] theorem lenS {α : Type} {M : List α → Prop} {p : List α} {n : Nat} (h : p.length = n + 1) (k : ∀ a q, q.length = n → M (a :: q)) : M p := by
  rcases p with _ | ⟨a, q⟩
  · exact Nat.noConfusion h
  · exact k a q (Nat.succ.inj h)
@[elab_as_elim] theorem len0 {α : Type} {M : List α → Prop} {p : List α} (h : p.length = 0) (k : M []) : M p := List.eq_nil_of_length_eq_zero h ▸ k
theorem lt_decide {a b : Int} : decide (a < b) = true ↔ a < b := decide_eq_true_iff
theorem k12 {kind : Nat} (hk : kind < 2) {p : List Int} (h : p.length = 2) : keepsI kind 1 p = true ↔ lexOf (kind == 0) [(0, 1)] p := by
  refine lenS h fun a q h => lenS h fun b q h => len0 h ?_
  have e : keepsI kind 1 [a, b] = (if a = b then (kind == 0) else decide (a < b)) := by
    unfold keepsI
    rw [if_neg (by lia)]
    show (match lexGo [a] [b] [0] with | some b => b | none => decide (1 < 1) || (decide (1 = 1) && decide (kind = 0))) = _
    show (match (if a = b then none else some (decide (a < b))) with | some b => b | none => decide (1 < 1) || (decide (1 = 1) && decide (kind = 0))) = _
    by_cases c : a = b
    · rw [if_pos c, if_pos c]; simp
      rcases kind with _ | _ <;> rfl
    · rw [if_neg c, if_neg c]
  rw [e]
  show _ ↔ (a < b ∨ (a = b ∧ (kind == 0) = true))
  by_cases c : a = b
  · rw [if_pos c]
    exact ⟨fun h => .inr ⟨c, h⟩, fun h => h.elim (fun h => by lia) fun h => h.2⟩
  · rw [if_neg c, lt_decide]
    exact ⟨.inl, fun h => h.elim id fun h => absurd h.1 c⟩
theorem k13 {kind : Nat} (hk : kind < 2) {p : List Int} (h : p.length = 3) : keepsI kind 1 p = true ↔ lexOf true [(0, 1)] p := by
  refine lenS h fun a q h => lenS h fun b q h => lenS h fun c q h => len0 h ?_
  have e : keepsI kind 1 [a, b, c] = (if a = b then true else decide (a < b)) := by
    unfold keepsI
    rw [if_neg (by lia)]
    show (match (if a = b then none else some (decide (a < b))) with | some b => b | none => decide (1 < 2) || (decide (1 = 2) && decide (kind = 0))) = _
    by_cases c : a = b
    · rw [if_pos c, if_pos c]; rfl
    · rw [if_neg c, if_neg c]
  rw [e]
  show _ ↔ (a < b ∨ (a = b ∧ true = true))
  by_cases c : a = b
  · rw [if_pos c]
    exact ⟨fun h => .inr ⟨c, h⟩, fun h => rfl⟩
  · rw [if_neg c, lt_decide]
    exact ⟨.inl, fun h => h.elim id fun h => absurd h.1 c⟩
theorem k23 {kind : Nat} (hk : kind < 2) {p : List Int} (h : p.length = 3) : keepsI kind 2 p = true ↔ lexOf false [(0, 2)] p := by
  refine lenS h fun a q h => lenS h fun b q h => lenS h fun c q h => len0 h ?_
  have e : keepsI kind 2 [a, b, c] = (if a = c then false else decide (a < c)) := by
    unfold keepsI
    rw [if_neg (by lia)]
    show (match (if a = c then none else some (decide (a < c))) with | some b => b | none => decide (2 < 1) || (decide (2 = 1) && decide (kind = 0))) = _
    by_cases h : a = c
    · rw [if_pos h, if_pos h]; rfl
    · rw [if_neg h, if_neg h]
  rw [e]
  show _ ↔ (a < c ∨ (a = c ∧ false = true))
  by_cases h : a = c
  · rw [if_pos h]
    exact ⟨(fun h => by injection h), fun h' => h'.elim (fun h' => by lia) fun h' => h'.2⟩
  · rw [if_neg h, lt_decide]
    exact ⟨.inl, fun h' => h'.elim id fun h' => absurd h'.1 h⟩
theorem k24 {kind : Nat} (hk : kind < 2) {p : List Int} (h : p.length = 4) : keepsI kind 2 p = true ↔ lexOf (kind == 0) [(0, 2), (1, 3)] p := by
  refine lenS h fun a q h => lenS h fun b q h => lenS h fun c q h => lenS h fun d q h => len0 h ?_
  have e : keepsI kind 2 [a, b, c, d] = (if a = c then (if b = d then (kind == 0) else decide (b < d)) else decide (a < c)) := by
    unfold keepsI
    rw [if_neg (by lia)]
    show (match (if a = c then (if b = d then none else some (decide (b < d))) else some (decide (a < c))) with | some b => b | none => decide (2 < 2) || (decide (2 = 2) && decide (kind = 0))) = _
    by_cases h : a = c
    · rw [if_pos h, if_pos h]
      by_cases h' : b = d
      · rw [if_pos h', if_pos h']; simp
        rcases kind with _ | _ <;> rfl
      · rw [if_neg h', if_neg h']
    · rw [if_neg h, if_neg h]
  rw [e]
  show _ ↔ (a < c ∨ (a = c ∧ (b < d ∨ (b = d ∧ (kind == 0) = true))))
  by_cases h : a = c
  · rw [if_pos h]
    by_cases h' : b = d
    · rw [if_pos h']
      exact ⟨fun k => .inr ⟨h, .inr ⟨h', k⟩⟩, fun k => k.elim (fun k => by lia) fun k => k.2.elim (fun k => by lia) fun k => k.2⟩
    · rw [if_neg h', lt_decide]
      exact ⟨fun k => .inr ⟨h, .inl k⟩, fun k => k.elim (fun k => by lia) fun k => k.2.elim id fun k => absurd k.1 h'⟩
  · rw [if_neg h, lt_decide]
    exact ⟨.inl, fun k => k.elim id fun k => absurd k.1 h⟩
theorem kinc {split n : Nat} {p : List Int} (h : p.length = n) : keepsI 2 split p = true ↔ IncK n p := by
  unfold keepsI IncK
  rw [if_pos rfl, List.all_eq_true, h]
  constructor
  · intro k j hj
    have := k j (List.mem_range.mpr (by lia))
    simp at this
    simpa [List.getD_eq_getElem?_getD] using this
  · intro k j hj
    have := k j (by have := List.mem_range.mp hj; lia)
    simp
    simpa [List.getD_eq_getElem?_getD] using this
theorem c12 {kind : Nat} (hk : kind < 2) {p : List Int} (h : p.length = 2) : checkLex 1 (decide (kind = 1)) p = keepsI kind 1 p := by
  rw [Bool.eq_iff_iff, k12 hk h]
  refine lenS h fun a q h => lenS h fun b q h => len0 h ?_
  show ((if a = b then false else decide (a < b)) || (decide ([a] = [b]) && !decide (kind = 1))) = true ↔ (a < b ∨ (a = b ∧ (kind == 0) = true))
  have hkk : kind = 0 ∨ kind = 1 := by lia
  by_cases c : a = b
  · subst c
    rcases hkk with rfl | rfl <;> simp
  · have : ¬ [a] = [b] := fun h => c (by injection h)
    simp [c]
theorem c13 {kind : Nat} (hk : kind < 2) {p : List Int} (h : p.length = 3) : checkLex 1 (decide (kind = 1)) p = keepsI kind 1 p := by
  rw [Bool.eq_iff_iff, k13 hk h]
  refine lenS h fun a q h => lenS h fun b q h => lenS h fun c q h => len0 h ?_
  show ((if a = b then true else decide (a < b)) || (decide ([a] = [b, c]) && !decide (kind = 1))) = true ↔ (a < b ∨ (a = b ∧ true = true))
  by_cases e : a = b
  · simp [e]
  · simp [e]
theorem c23 {kind : Nat} (hk : kind < 2) {p : List Int} (h : p.length = 3) : checkLex 2 (decide (kind = 1)) p = keepsI kind 2 p := by
  rw [Bool.eq_iff_iff, k23 hk h]
  refine lenS h fun a q h => lenS h fun b q h => lenS h fun c q h => len0 h ?_
  show ((if a = c then false else decide (a < c)) || (decide ([a, b] = [c]) && !decide (kind = 1))) = true ↔ (a < c ∨ (a = c ∧ false = true))
  by_cases e : a = c
  · simp [e]
  · simp [e]
theorem c24 {kind : Nat} (hk : kind < 2) {p : List Int} (h : p.length = 4) : checkLex 2 (decide (kind = 1)) p = keepsI kind 2 p := by
  rw [Bool.eq_iff_iff, k24 hk h]
  refine lenS h fun a q h => lenS h fun b q h => lenS h fun c q h => lenS h fun d q h => len0 h ?_
  show ((if a = c then (if b = d then false else decide (b < d)) else decide (a < c)) || (decide ([a, b] = [c, d]) && !decide (kind = 1))) = true ↔ (a < c ∨ (a = c ∧ (b < d ∨ (b = d ∧ (kind == 0) = true))))
  have hkk : kind = 0 ∨ kind = 1 := by lia
  by_cases e : a = c
  · subst e
    by_cases e' : b = d
    · subst e'
      rcases hkk with rfl | rfl <;> simp
    · simp [e']
  · simp [e]
noncomputable def Srt : List Int → Prop
  | [] => True
  | [_] => True
  | x :: y :: r => x ≤ y ∧ Srt (y :: r)
theorem insI_c {x y : Int} {r : List Int} : insI x (y :: r) = if x ≤ y then x :: y :: r else y :: insI x r := rfl
theorem ins_head {x : Int} : ∀ {l : List Int}, ∃ y r, insI x l = y :: r ∧ (y = x ∨ l.head? = some y)
  | [] => ⟨x, [], rfl, .inl rfl⟩
  | z :: r => by
    rw [insI_c]
    split
    · exact ⟨x, _, rfl, .inl rfl⟩
    · exact ⟨z, _, rfl, .inr rfl⟩
theorem ins_srt {x : Int} : ∀ {l : List Int}, Srt l → Srt (insI x l)
  | [] => @fun _ => trivial
  | [z] => @fun _ => by
    rw [insI_c]
    split
    · rename_i h; exact ⟨h, trivial⟩
    · exact ⟨by lia, trivial⟩
  | z :: w :: r => @fun h => by
    rw [insI_c]
    split
    · rename_i h'; exact ⟨h', h⟩
    · rename_i h'
      have ih := ins_srt (x := x) (l := w :: r) h.2
      obtain ⟨y, t, e, hy⟩ := ins_head (x := x) (l := w :: r)
      rw [e] at ih ⊢
      refine ⟨?_, ih⟩
      rcases hy with rfl | hy
      · lia
      · have : w = y := by simpa using hy
        rw [← this]; exact h.1
theorem sort_srt : ∀ l : List Int, Srt (sortI l)
  | [] => trivial
  | x :: r => ins_srt (sort_srt r)
theorem sort_id : ∀ {l : List Int}, Srt l → sortI l = l
  | [] => @fun _ => rfl
  | [x] => @fun _ => rfl
  | x :: y :: r => @fun h => by
    show insI x (sortI (y :: r)) = _
    rw [sort_id h.2]
    rw [insI_c]
    rw [if_pos h.1]
theorem srt_iff : ∀ {l : List Int}, Srt l ↔ IncK l.length l
  | [] => ⟨fun _ j hj => by simp at hj, fun _ => trivial⟩
  | [x] => ⟨fun _ j hj => by simp at hj, fun _ => trivial⟩
  | x :: y :: r => by
    have ih := srt_iff (l := y :: r)
    constructor
    · rintro ⟨a, b⟩ j hj
      induction j with
      | zero => simpa using a
      | succ j => simpa using ih.mp b j (by simpa using hj)
    · intro h
      exact ⟨by simpa using h 0 (by simp), ih.mpr fun j hj => by simpa using h (j + 1) (by simpa using hj)⟩
theorem cinc {split : Nat} {p : List Int} : decide (p = sortI p) = keepsI 2 split p := by
  rw [Bool.eq_iff_iff, kinc (n := p.length) rfl, ← srt_iff, decide_eq_true_iff]
  exact ⟨fun h => h ▸ sort_srt p, fun h => (sort_id h).symm⟩
end Mine.Internal.P
namespace Mine.Internal.P
structure Cfg (kind split many kls fck fpr : Nat) (rf : List (Nat × RV)) (pass : St → Bool × St) (K : List Int → Prop) : Prop where
  ro : RuleOk kind split many kls fck fpr rf pass
  hm0 : 0 < many
  ok : ∀ st, Okk st → st.ms.length = many → PassOk K many st (pass st)
  rest : ∀ st, Okk st → st.ms.length = many → pass st = (true, st) → ∃ f, BoxF many st f ∧ K (listOf many f)
  hK : ∀ p : List Int, p.length = many → (keepsI kind split p = true ↔ K p)
  tight : (kind < 2 ∧ ∀ st, Okk st → st.ms.length = many → pass st = (true, st) → ∀ z, z < many → ∀ v ∈ domS st z, ∃ f, BoxF many st f ∧ f z = v ∧ K (listOf many f)) ∨ (kind = 2 ∧ pass = incS many)
noncomputable def lexR (split many : Nat) (strict alike : Bool) (ps : List (Nat × Nat)) : List (Nat × RV) := lexF (scopeV many) (ps.map pairV) split strict alike
theorem lex_cfg {kind split many : Nat} {alike : Bool} {ps : List (Nat × Nat)} (hk : kind < 2) (hs : split ≤ 2) (hm : many ≤ 4) (hm0 : 0 < many) (hps : ∀ p ∈ ps, p.1 < many ∧ p.2 < many) (hpl : ps.length ≤ 2) (hd : Dis ps)
    (hc : ∀ p : List Int, p.length = many → checkLex split (decide (kind = 1)) p = keepsI kind split p) (hK : ∀ p : List Int, p.length = many → (keepsI kind split p = true ↔ lexOf alike ps p))
    (told : ∀ fi ma L st, callN prog 8 42 [.ref 7, .val (.int (kind : Int)), .val (.int (split : Int)), .val (.int (many : Int))] (hpOf fi ma [.flst L, .inst 1 (lexR split many (decide (kind = 1)) alike ps)] st) = some (.val (.bool true), hpOf fi ma [.flst L, .inst 1 (lexR split many (decide (kind = 1)) alike ps)] st)) :
    Cfg kind split many 1 27 24 (lexR split many (decide (kind = 1)) alike ps) (goS alike ps) (lexOf alike ps) := by
  have pl : Plain (.inst 1 (lexR split many (decide (kind = 1)) alike ps)) := fun _ => rfl
  have rest : ∀ st, Okk st → st.ms.length = many → goS alike ps st = (true, st) → ∀ z, z < many → ∀ v ∈ domS st z, ∃ f, BoxF many st f ∧ f z = v ∧ lexOf alike ps (listOf many f) := fun st o hn h z hz v hv => by
    obtain ⟨f, bf, fz, lf⟩ := lex_rest ps [] st o hn hd hps h z hz v hv
    refine ⟨f, bf, fz, lf.congr fun p m => ?_⟩
    obtain ⟨a, b⟩ := hps p m
    exact ⟨(listOf_at a).symm, (listOf_at b).symm⟩
  refine ⟨⟨by lia, hs, hm, pl, rfl, rfl, rfl, rfl, fun fi ma x r st p hp => ?_, fun fi ma x ext st hx he o hn => ?_, told⟩, hm0, fun st o hn => ?_, fun st o hn h => ?_, hK, .inl ⟨hk, rest⟩⟩
  · rw [← hc p hp]
    exact check_lex_sp 7 (by lia)
  · exact prop_lex_sp 1 (fun o m => by
      rcases List.mem_cons.mp m with rfl | m
      · exact hx
      · rcases List.mem_cons.mp m with rfl | m
        · exact pl
        · exact he o m) (by lia) rfl o (fun p m => by rw [hn]; exact hps p m)
  · refine go_pass ps [] st o hn hps (by simp; lia) (fun _ m => nM m) fun p hp hk _ => hk
  · obtain ⟨a, _⟩ := okLo o hn (x := 0) hm0
    obtain ⟨f, bf, _, lf⟩ := rest st o hn h 0 hm0 _ a
    exact ⟨f, bf, lf⟩
theorem inc_cfg {split many : Nat} (hs : split ≤ 2) (hm : many ≤ 4) (hm0 : 0 < many)
    (told : ∀ fi ma L st, callN prog 8 42 [.ref 7, .val (.int ((2 : Nat) : Int)), .val (.int (split : Int)), .val (.int (many : Int))] (hpOf fi ma [.flst L, .inst 2 (incF (scopeV many))] st) = some (.val (.bool true), hpOf fi ma [.flst L, .inst 2 (incF (scopeV many))] st)) :
    Cfg 2 split many 2 31 30 (incF (scopeV many)) (incS many) (IncK many) := by
  refine ⟨⟨by lia, hs, hm, fun _ => rfl, rfl, rfl, rfl, rfl, fun fi ma x r st p hp => ?_, fun fi ma x ext st hx he o hn => ?_, told⟩, hm0, fun st o hn => inc_pass o hn, fun st o hn h => ?_, fun p hp => kinc hp, .inr ⟨rfl, rfl⟩⟩
  · rw [← cinc (split := split)]
    exact check_inc_sp 7 (by lia)
  · exact prop_inc_sp 2 (by lia) o hn
  · refine ⟨fun z => loM (st.ms.getD z 0), box_lo o hn, fun j hj => ?_⟩
    rw [listOf_at (by lia), listOf_at hj]
    exact (inc_rest o hn h j hj).1
theorem cfg_0_12 : Cfg 0 1 2 1 27 24 (lexR 1 2 false true [(0, 1)]) (goS true [(0, 1)]) (lexOf true [(0, 1)]) :=
  lex_cfg (kind := 0) (split := 1) (many := 2) (alike := true) (ps := [(0, 1)]) (by decide) (by decide) (by decide) (by decide) (by decide) (by decide) ⟨by decide, (fun _ m => nM m), trivial⟩ (fun p h => c12 (by decide) h) (fun p h => k12 (by decide) h) (fun fi ma L st => by kernel_rfl)
theorem cfg_1_12 : Cfg 1 1 2 1 27 24 (lexR 1 2 true false [(0, 1)]) (goS false [(0, 1)]) (lexOf false [(0, 1)]) :=
  lex_cfg (kind := 1) (split := 1) (many := 2) (alike := false) (ps := [(0, 1)]) (by decide) (by decide) (by decide) (by decide) (by decide) (by decide) ⟨by decide, (fun _ m => nM m), trivial⟩ (fun p h => c12 (by decide) h) (fun p h => k12 (by decide) h) (fun fi ma L st => by kernel_rfl)
theorem cfg_2_12 : Cfg 2 1 2 2 31 30 (incF (scopeV 2)) (incS 2) (IncK 2) := inc_cfg (split := 1) (by decide) (by decide) (by decide) (fun fi ma L st => by kernel_rfl)
theorem cfg_0_13 : Cfg 0 1 3 1 27 24 (lexR 1 3 false true [(0, 1)]) (goS true [(0, 1)]) (lexOf true [(0, 1)]) :=
  lex_cfg (kind := 0) (split := 1) (many := 3) (alike := true) (ps := [(0, 1)]) (by decide) (by decide) (by decide) (by decide) (by decide) (by decide) ⟨by decide, (fun _ m => nM m), trivial⟩ (fun p h => c13 (by decide) h) (fun p h => k13 (by decide) h) (fun fi ma L st => by kernel_rfl)
theorem cfg_1_13 : Cfg 1 1 3 1 27 24 (lexR 1 3 true true [(0, 1)]) (goS true [(0, 1)]) (lexOf true [(0, 1)]) :=
  lex_cfg (kind := 1) (split := 1) (many := 3) (alike := true) (ps := [(0, 1)]) (by decide) (by decide) (by decide) (by decide) (by decide) (by decide) ⟨by decide, (fun _ m => nM m), trivial⟩ (fun p h => c13 (by decide) h) (fun p h => k13 (by decide) h) (fun fi ma L st => by kernel_rfl)
theorem cfg_2_13 : Cfg 2 1 3 2 31 30 (incF (scopeV 3)) (incS 3) (IncK 3) := inc_cfg (split := 1) (by decide) (by decide) (by decide) (fun fi ma L st => by kernel_rfl)
theorem cfg_0_23 : Cfg 0 2 3 1 27 24 (lexR 2 3 false false [(0, 2)]) (goS false [(0, 2)]) (lexOf false [(0, 2)]) :=
  lex_cfg (kind := 0) (split := 2) (many := 3) (alike := false) (ps := [(0, 2)]) (by decide) (by decide) (by decide) (by decide) (by decide) (by decide) ⟨by decide, (fun _ m => nM m), trivial⟩ (fun p h => c23 (by decide) h) (fun p h => k23 (by decide) h) (fun fi ma L st => by kernel_rfl)
theorem cfg_1_23 : Cfg 1 2 3 1 27 24 (lexR 2 3 true false [(0, 2)]) (goS false [(0, 2)]) (lexOf false [(0, 2)]) :=
  lex_cfg (kind := 1) (split := 2) (many := 3) (alike := false) (ps := [(0, 2)]) (by decide) (by decide) (by decide) (by decide) (by decide) (by decide) ⟨by decide, (fun _ m => nM m), trivial⟩ (fun p h => c23 (by decide) h) (fun p h => k23 (by decide) h) (fun fi ma L st => by kernel_rfl)
theorem cfg_2_23 : Cfg 2 2 3 2 31 30 (incF (scopeV 3)) (incS 3) (IncK 3) := inc_cfg (split := 2) (by decide) (by decide) (by decide) (fun fi ma L st => by kernel_rfl)
theorem cfg_0_24 : Cfg 0 2 4 1 27 24 (lexR 2 4 false true [(0, 2), (1, 3)]) (goS true [(0, 2), (1, 3)]) (lexOf true [(0, 2), (1, 3)]) :=
  lex_cfg (kind := 0) (split := 2) (many := 4) (alike := true) (ps := [(0, 2), (1, 3)]) (by decide) (by decide) (by decide) (by decide) (by decide) (by decide) ⟨by decide, (fun p m => by rw [List.mem_singleton.mp m]; decide), by decide, (fun _ m => nM m), trivial⟩ (fun p h => c24 (by decide) h) (fun p h => k24 (by decide) h) (fun fi ma L st => by kernel_rfl)
theorem cfg_1_24 : Cfg 1 2 4 1 27 24 (lexR 2 4 true false [(0, 2), (1, 3)]) (goS false [(0, 2), (1, 3)]) (lexOf false [(0, 2), (1, 3)]) :=
  lex_cfg (kind := 1) (split := 2) (many := 4) (alike := false) (ps := [(0, 2), (1, 3)]) (by decide) (by decide) (by decide) (by decide) (by decide) (by decide) ⟨by decide, (fun p m => by rw [List.mem_singleton.mp m]; decide), by decide, (fun _ m => nM m), trivial⟩ (fun p h => c24 (by decide) h) (fun p h => k24 (by decide) h) (fun fi ma L st => by kernel_rfl)
theorem cfg_2_24 : Cfg 2 2 4 2 31 30 (incF (scopeV 4)) (incS 4) (IncK 4) := inc_cfg (split := 2) (by decide) (by decide) (by decide) (fun fi ma L st => by kernel_rfl)
end Mine.Internal.P
namespace Mine.Internal.P
section
variable {kind split many kls fck fpr : Nat} {rf : List (Nat × RV)} {pass : St → Bool × St} {K : List Int → Prop} {F : List Nat} {st : St}
theorem tight_sp (C : Cfg kind split many kls fck fpr rf pass K) (hn : st.ms.length = many) (hF : F.length = many) (hsub : ∀ x v, v ∈ domS st x → v ∈ lotI (F.getD x 0))
    {r : Bool × St} (fa : Facts many kind split F pass st r ((goodI F kind split).filter (inBox st.ms))) (ht : r.1 = true) :
    callN prog 8 41 [.val (.int (kind : Int)), .val (.int (split : Int)), .val (.lst (r.2.ms.map lotV)), .val (ptsV ((goodI F kind split).filter (inBox st.ms)))] [] = some (.val (.bool true), []) := by
  have hm4 := C.ro.hm
  have hbl : ((goodI F kind split).filter (inBox st.ms)).length ≤ 256 := Nat.le_trans (List.length_filter_le _ _) (good_len (by lia)).1
  obtain ⟨o2, fx, keep⟩ := fa.rest ht
  have n2 := fa.len
  have hbp : ∀ p ∈ (goodI F kind split).filter (inBox st.ms), p.length = r.2.ms.length ∧ ∀ v ∈ p, 0 ≤ v ∧ v < 4 := fun p m => by
    obtain ⟨a, b, c⟩ := (mem_before hn hF hsub).mp m
    refine ⟨by rw [a, n2], fun v hv => ?_⟩
    obtain ⟨i, hi, e⟩ := List.getElem_of_mem hv
    have := b i (by rw [hn, ← a]; exact hi)
    have e2 : p.getD i 0 = p[i] := by rw [List.getD_eq_getElem?_getD, List.getElem?_eq_getElem hi]; rfl
    rw [e2, e] at this
    exact lot_bnd this
  have hne : (goodI F kind split).filter (inBox st.ms) ≠ [] := by
    intro e
    have := fa.verdict
    rw [ht, e] at this
    exact nB (Eq.symm this)
  have inEnds : ∀ x v, x < r.2.ms.length → v ∈ endsI ((goodI F kind split).filter (inBox st.ms)) x → v ∈ lotI (r.2.ms.getD x 0) := fun x v hx hv => by
    obtain ⟨p, hp, rfl⟩ := List.mem_map.mp (setMs_sub hv)
    exact keep p hp x hx
  rcases C.tight with ⟨hk, sup⟩ | ⟨hk, hpass⟩
  · refine tight_lex_sp 7 hk (by lia) (by lia) hne hbp fun x hx => setMs_eq fun i hi => ?_
    constructor
    · intro h
      obtain ⟨p, hp, e⟩ := List.mem_map.mp h
      rw [← e]
      exact keep p hp x hx
    · intro h
      obtain ⟨f, bf, fz, kf⟩ := sup r.2 o2 n2 fx x (by rw [← n2]; exact hx) _ h
      refine List.mem_map.mpr ⟨listOf many f, (mem_before hn hF hsub).mpr ⟨listOf_len, fun y hy => fa.sub _ _ (box_of n2 bf y (by rw [n2, ← hn]; exact hy)), (C.hK _ listOf_len).mpr kf⟩, ?_⟩
      rw [listOf_at (by rw [← n2]; exact hx), fz]
  · subst hk
    subst hpass
    have ir := inc_rest o2 n2 fx
    refine tight_inc_sp 6 (by lia) (fun m mm => o2.m m mm) (by lia) hbp (fun x hx v hv => inEnds x v hx hv) fun x hx => ?_
    have hx' : x < many := by rw [← n2]; exact hx
    have wit : ∀ f : Nat → Int, (∀ y, y < many → loM (r.2.ms.getD y 0) ≤ f y ∧ f y ≤ hiM (r.2.ms.getD y 0)) → (∀ j, j + 1 < many → f j ≤ f (j + 1)) → f x ∈ ((pointsI (r.2.ms.map rangeI)).filter (keepsI 2 0)).map (fun p => p.getD x 0) := fun f hf hi => by
      refine List.mem_map.mpr ⟨listOf many f, List.mem_filter.mpr ⟨mem_points.mpr ⟨by rw [listOf_len, List.length_map, n2], fun y hy => ?_⟩, (kinc listOf_len).mpr fun j hj => ?_⟩, listOf_at hx'⟩
      · have hy' : y < many := by rw [← n2]; simpa using hy
        have hy2 : y < r.2.ms.length := by simpa using hy
        have e : (r.2.ms.map rangeI).getD y [] = rangeI (r.2.ms.getD y 0) := by
          simp [List.getD_eq_getElem?_getD, List.getElem?_eq_getElem hy2]
        rw [e, listOf_at hy']
        obtain ⟨a, b⟩ := hf y hy'
        obtain ⟨_, _, _, c, _⟩ := okLo o2 n2 hy'
        unfold rangeI
        exact List.mem_map.mpr ⟨(f y - loM (r.2.ms.getD y 0)).toNat, List.mem_range.mpr (by lia), by lia⟩
      · rw [listOf_at (by lia), listOf_at hj]
        exact hi j hj
    have el : ∀ y, y < many → loM (r.2.ms.getD y 0) ≤ hiM (r.2.ms.getD y 0) := fun y hy => by
      obtain ⟨a, _, c, _⟩ := okLo o2 n2 hy
      exact (c _ a).2
    exact ⟨wit (fun z => loM (r.2.ms.getD z 0)) (fun y hy => ⟨Int.le_refl _, el y hy⟩) fun j hj => (ir j hj).1, wit (fun z => hiM (r.2.ms.getD z 0)) (fun y hy => ⟨el y hy, Int.le_refl _⟩) fun j hj => (ir j hj).2⟩
structure Dec (many : Nat) (F : List Nat) (st : St) : Prop where
  o : Okk st
  n : st.ms.length = many
  f : st.failed = false
  r : restore st.tr st.ms = F
  x : ∀ e ∈ st.tr, e.x < many
  s : ∀ x v, v ∈ domS st x → v ∈ lotI (F.getD x 0)
theorem dec_next {n : Nat} (hm : 0 < many) (d : Dec many F st) : Dec many F (decS many n st) := by
  obtain ⟨o', n'⟩ := dec_ok (n := n) hm d.n d.o
  unfold decS at o' n' ⊢
  split
  · rename_i h
    rw [if_pos h] at o' n'
    have lk := cellLit_ok (n := n) hm
    obtain ⟨h1, h2⟩ := said_zero h.2
    have e : enterS st (cellLit many n) none = (true, { st with ms := st.ms.set (cellLit many n).x (strikeM (st.ms.getD (cellLit many n).x 0) (cellLit many n).sg (cellLit many n).k), tr := st.tr ++ [⟨(cellLit many n).x, st.ms.getD (cellLit many n).x 0, cellLit many n, none⟩], n := st.n + 1 }) := by
      unfold enterS
      dsimp only
      rw [if_neg h2, if_neg h1]
    have dm := enter_dom d.o d.n lk e
    rw [e] at o' n' ⊢
    refine ⟨o', n', d.f, ?_, fun e he => ?_, fun x v hv => d.s x v ((dm x v).mp hv).1⟩
    · show restore (st.tr ++ [_]) _ = F
      rw [restore_snoc]
      show restore st.tr ((st.ms.set _ _).set _ _) = F
      rw [List.set_set, set_self, d.r]
      rw [List.getD_eq_getElem?_getD, List.getElem?_eq_getElem (by rw [d.n]; exact lk.1)]
      rfl
    · rcases List.mem_append.mp he with he | he
      · exact d.x e he
      · rw [List.mem_singleton.mp he]; exact lk.1
  · exact d
theorem dec_all (hm : 0 < many) : ∀ (cs : List Nat) {st : St}, Dec many F st → Dec many F (cs.foldl (fun s n => decS many n s) st)
  | [], st => @fun d => d
  | c :: cs, st => @fun d => dec_all hm cs (dec_next hm d)
theorem law_tail (C : Cfg kind split many kls fck fpr rf pass K) (hF : F.length = many) (hFm : ∀ m ∈ F, m < 16 ∧ m ≠ 0) {cs : List Nat} {p w u1 u2 xs ys : V} :
    ∃ loc' hp', blkL 7 (LL p (.lst (cs.map fun (n : Nat) => .int (n : Int))) w u1 u2 xs ys kind split many []) (hpOf (F.map domV) [] [.mlst (F.map lotV), .inst kls rf] ⟨F, [], false, [], 0⟩) = some (.ret (.val (.bool true)), loc', hp') := by
  have hm4 := C.ro.hm
  have hm0 := C.hm0
  have d0 : Dec many F ⟨F, [], false, [], 0⟩ := by
    refine ⟨⟨hFm, ?_, ?_⟩, hF, rfl, rfl, (fun _ m => nM m), fun _ _ h => h⟩
    all_goals
      show 0 + sumC F ≤ 30
      have : ∀ G : List Nat, sumC G ≤ 4 * G.length := by
        intro G
        induction G with
        | nil => simp [sumC]
        | cons m G ih =>
          have : cardM m ≤ 4 := by
            unfold cardM valsM
            exact Nat.le_trans (List.length_filter_le _ _) (by simp)
          simp only [sumC, List.length_cons]; lia
      have := this F
      lia
  have d1 := dec_all (F := F) hm0 ((cs.take 7).drop 5) d0
  generalize hst1 : ((cs.take 7).drop 5).foldl (fun s n => decS many n s) ⟨F, [], false, [], 0⟩ = st1 at d1
  have fa := facts C.ok C.rest C.hK d1.o d1.n hF d1.s d1.f
  have gl := good_len (F := F) (kind := kind) (split := split) (by lia)
  have gp : ∀ p ∈ goodI F kind split, p.length = many := fun p m => by rw [gl.2 p m, hF]
  generalize hr : propS pass 63 st1 = r at fa
  obtain ⟨es, e1, e2, e3, e4⟩ := fa.ents
  have d1m : ∀ m ∈ st1.ms, m < 16 := fun m mm => (d1.o.m m mm).1
  have r2m : ∀ m ∈ r.2.ms, m < 16 := fun m mm => (fa.okay.m m mm).1
  have htr40 : r.2.tr.length ≤ 40 := by have := fa.okay.t; lia
  have hx : ∀ e ∈ r.2.tr, e.x < r.2.ms.length := fun e he => by
    rw [fa.len]
    rw [e1] at he
    rcases List.mem_append.mp he with he | he
    · exact d1.x e he
    · exact e4 e he
  have hres : restore r.2.tr r.2.ms = F := by rw [e1, restore_app, e3, d1.r]
  have S7 := s_good (p := p) (c := .lst (cs.map fun (n : Nat) => .int (n : Int))) (w := w) (u1 := u1) (u2 := u2) (xs := xs) (ys := ys) (fi := F.map domV) (ma := []) (ext := [.inst kls rf]) (st := ⟨F, [], false, [], 0⟩) C.ro (F := F) (by lia)
  obtain ⟨o, D⟩ := s_dec (kind := kind) (split := split) (p := p) (c := .lst (cs.map fun (n : Nat) => .int (n : Int))) (w := w) (u1 := u1) (u2 := u2) (xs := xs) (ys := ys) (g := ptsV (goodI F kind split)) (fi := F.map domV) (ma := [.int (([] : List Ent).length : Int)]) (ext := [.flst (F.map lotV), .inst kls rf]) 11 hm0 hm4 ((cs.take 7).drop 5) ⟨F, [], false, [], 0⟩ none d0.o hF
  rw [hst1] at D
  have S11 : S8 (LL p (.lst (cs.map fun (n : Nat) => .int (n : Int))) w u1 u2 xs ys kind split many [(67, .val (ptsV (goodI F kind split)))]) (hpOf (F.map domV) [.int (([] : List Ent).length : Int)] [.flst (F.map lotV), .inst kls rf] ⟨F, [], false, [], 0⟩) 11 =
      some (.next, LL p (.lst (cs.map fun (n : Nat) => .int (n : Int))) w u1 u2 xs ys kind split many (T2 (ptsV (goodI F kind split)) o []), hpOf (F.map domV) [.int (([] : List Ent).length : Int)] [.flst (F.map lotV), .inst kls rf] st1) := by
    have hsl : slcV (.lst (cs.map fun (n : Nat) => V.int (n : Int))) (some ((5 : Nat) : Int)) (some ((7 : Nat) : Int)) = some (.lst (((cs.take 7).drop 5).map fun (n : Nat) => V.int (n : Int))) := by
      show some (V.lst (((cs.map fun (n : Nat) => V.int (n : Int)).take 7).drop 5)) = _
      rw [← List.map_take, ← List.map_drop]
    refine run_S ?_
    exact run_K hsl (run_K D (run_done rfl))
  have S13 := s_before (kind := kind) (split := split) (p := p) (c := .lst (cs.map fun (n : Nat) => .int (n : Int))) (w := w) (u1 := u1) (u2 := u2) (xs := xs) (ys := ys) (o := o) (n81 := st1.tr.length) (D := st1.ms) (many := many) (good := goodI F kind split) d1.n hm4 (by lia) gp (hpOf (F.map domV) [.int (([] : List Ent).length : Int)] [.flst (F.map lotV), .inst kls rf] st1)
  generalize hbf : (goodI F kind split).filter (inBox st1.ms) = bf at *
  have S14 := s_prop (o := o) (g := ptsV (goodI F kind split)) (p := p) (c := .lst (cs.map fun (n : Nat) => .int (n : Int))) (w := w) (u1 := u1) (u2 := u2) (xs := xs) (ys := ys) (n81 := st1.tr.length) (l := .lst (st1.ms.map lotV)) (b := ptsV bf) (fi := F.map domV) (ma := [.int (([] : List Ent).length : Int)]) (ext := []) (x := .flst (F.map lotV)) (st := st1) C.ro (fun _ m => nM m) (fun _ => rfl) d1.o d1.n
  rw [hr] at S14
  obtain ⟨o', S16⟩ := s_right (kind := kind) (split := split) (many := many) (o := o) (p := p) (c := .lst (cs.map fun (n : Nat) => .int (n : Int))) (w := w) (u1 := u1) (u2 := u2) (xs := xs) (ys := ys) (b := ptsV bf) (v := .bool r.1) (kls := kls) (rf := rf) (fi := F.map domV) (ma := [.int (([] : List Ent).length : Int)]) (x := .flst (F.map lotV)) (st := r.2) (st1 := st1) (good := goodI F kind split) (D := st1.ms) e1 (by lia) e2 (by rw [d1.n]; exact hm4) (fun p m => by rw [gp p m, d1.n]) d1m
  have fin : ∀ t, ∃ loc' hp', blkL 19 (LL p (.lst (cs.map fun (n : Nat) => .int (n : Int))) w u1 u2 xs ys kind split many t) (hpOf (F.map domV) [.int (([] : List Ent).length : Int)] [.flst (F.map lotV), .inst kls rf, .mlst o'] r.2) = some (.ret (.val (.bool true)), loc', hp') := fun t =>
    let ⟨hp', h⟩ := s_end (kind := kind) (split := split) (many := many) (p := p) (c := .lst (cs.map fun (n : Nat) => .int (n : Int))) (w := w) (u1 := u1) (u2 := u2) (xs := xs) (ys := ys) (t := t) (F := F) (ext := [.inst kls rf, .mlst o']) (st := r.2) hFm (by lia) htr40 hx hres
    ⟨_, hp', h⟩
  obtain ⟨l18, S18⟩ : ∃ l18, S8 (LL p (.lst (cs.map fun (n : Nat) => .int (n : Int))) w u1 u2 xs ys kind split many (T2 (ptsV (goodI F kind split)) o (T3 (.lst (st1.ms.map lotV)) (ptsV bf) st1.tr.length [(82, .val (.bool r.1)), (84, .val (.lst (r.2.ms.map lotV)))]))) (hpOf (F.map domV) [.int (([] : List Ent).length : Int)] [.flst (F.map lotV), .inst kls rf, .mlst o'] r.2) 18 =
      some (.next, LL p (.lst (cs.map fun (n : Nat) => .int (n : Int))) w u1 u2 xs ys kind split many l18, hpOf (F.map domV) [.int (([] : List Ent).length : Int)] [.flst (F.map lotV), .inst kls rf, .mlst o'] r.2) := by
    induction hb : r.1 with
    | true =>
      obtain ⟨o2, fx, _⟩ := fa.rest hb
      have ht := tight_sp C d1.n hF d1.s (r := r) (by rw [hbf]; exact fa) hb
      rw [hbf] at ht
      exact ⟨_, s_stand (fi := F.map domV) (ma := [.int (([] : List Ent).length : Int)]) (ext := [.mlst o']) (x := .flst (F.map lotV)) (st := r.2) (bf := bf) C.ro (fun o m => by rw [List.mem_singleton.mp m]; exact fun _ => rfl) (fun _ => rfl) o2 fa.len (prop_again fx) ht⟩
    | false =>
      obtain ⟨c1, c2, c3⟩ := fa.clash hb
      exact ⟨_, s_fall (fi := F.map domV) (ma := [.int (([] : List Ent).length : Int)]) (ext := [.flst (F.map lotV), .inst kls rf, .mlst o']) (st := r.2) (good := goodI F kind split) (fun l hl => by rw [fa.len]; exact c1 l hl) c2 (by lia) (fun p m => by rw [gp p m, fa.len]) c3 fa.okay⟩
  obtain ⟨loc', hp', hf⟩ := fin l18
  exact ⟨loc', hp', at_ 7 (by decide) S7 (at_ 8 (by decide) (s_check (ext := []) C.ro (F := F) (by lia) hF) (at_ 9 (by decide) (s_told (F := F) C.ro) (at_ 10 (by decide) (s_push (by decide)) (at_ 11 (by decide) S11 (at_ 12 (by decide) (s_lots (by rw [d1.n]; exact hm4) d1m)
    (at_ 13 (by decide) S13 (at_ 14 (by decide) S14 (at_ 15 (by decide) (s_verdict fa.verdict fa.failed) (at_ 16 (by decide) S16 (at_ 17 (by decide) (s_late (by rw [fa.len]; exact hm4) r2m) (at_ 18 (by decide) S18 hf)))))))))))⟩
end
end Mine.Internal.P
namespace Mine.Internal.P
theorem powI {b : Nat} (h : b < 60) : binV .pow (.int ((2 : Nat) : Int)) (.int (b : Int)) = some (.int ((2 ^ b : Nat) : Int)) := by
  show (if ((2 : Nat) : Int) = 2 ∧ 0 ≤ (b : Int) ∧ (b : Int) < 60 then some (V.int (((2 : Nat) : Int) ^ (b : Int).toNat)) else none) = _
  rw [if_pos ⟨rfl, by lia, by lia⟩]
  congr 2
theorem range_bits {w M : Nat} (hw : w = 3 ∨ w = 4) (hM : M < 2 ^ w) : (List.range w).filter (fun v => M.testBit v) = valsM M := by
  have h3 : ((List.range 8).all fun M => decide ((List.range 3).filter (fun v => M.testBit v) = valsM M)) = true := by kernel_rfl
  rcases hw with rfl | rfl
  · exact of_decide_eq_true (List.all_eq_true.mp h3 M (List.mem_range.mpr hM))
  · rfl
noncomputable def maskN (w c : Nat) : Nat := 1 + c % (2 ^ w - 1)
theorem maskN_ok {w c : Nat} (hw : w = 3 ∨ w = 4) : maskN w c < 2 ^ w ∧ maskN w c < 16 ∧ maskN w c ≠ 0 := by
  unfold maskN
  rcases hw with rfl | rfl
  · have : c % 7 < 7 := Nat.mod_lt _ (by decide)
    show 1 + c % 7 < 8 ∧ 1 + c % 7 < 16 ∧ 1 + c % 7 ≠ 0
    lia
  · have : c % 15 < 15 := Nat.mod_lt _ (by decide)
    show 1 + c % 15 < 16 ∧ 1 + c % 15 < 16 ∧ 1 + c % 15 ≠ 0
    lia
theorem new_var_sp (c : Nat) {fl : Bool} {cl : V} {d f t m : List V} {n : Nat} {r : Hp} {mk : Nat} (hm : mk < 16) (h0 : mk ≠ 0) (hd : d.length < 4096) (hf : f.length < 4096) :
    callN prog (c + 1) 10 [.ref 0, .val (domV mk)] (SH fl cl d f t m n r) = some (.val (.int (((d ++ [domV mk]).length : Int) - ((1 : Nat) : Int))), SH fl cl (d ++ [domV mk]) (f ++ [domV mk]) t m n r) := by
  have hc := cmp_dom0 hm
  rw [decide_eq_false h0] at hc
  have h1 := gd_t hd
  have h2 := gd_t hf
  refine run_fnT (fd := f_Store_new_var) rfl rfl rfl ?_
  exact run_V h1 (run_V h2 (run_V hc (run_V rfl (run_V rfl (run_d rfl)))))
section
variable {cs : List Nat} {w many kind split : Nat} {p : V}
noncomputable def cellsV (cs : List Nat) : V := .lst (cs.map fun (n : Nat) => .int (n : Int))
theorem cells_at {i : Nat} (h : i < cs.length) : atIdx (cs.map fun (n : Nat) => V.int (n : Int)) (i : Int) = some (.int ((cs.getD i 0 : Nat) : Int)) := by
  rw [atIdx_nat, List.getElem?_map, List.getD_eq_getElem?_getD, List.getElem?_eq_getElem h]; rfl
noncomputable def LV (p c : V) (kind split many w : Nat) (o : Option (V × V)) : Loc :=
  (73, .val p) :: (74, .val c) :: (54, .val (.int (kind : Int))) :: (55, .val (.int (split : Int))) :: (38, .val (.int (many : Int))) :: (63, .ref 0) :: (51, .ref 6) :: (69, .val (.int (w : Int))) :: @Option.casesOn (V × V) (fun _ => Loc) o [] fun q => [(1, .val q.1), (62, .val q.2)]
noncomputable def mk (cs : List Nat) (w : Nat) (ks : List Nat) : List Nat := ks.map fun k => maskN w (cs.getD (1 + k) 0)
noncomputable def hpV (G : List Nat) : Hp := SH false (.tup []) (G.map domV) (G.map domV) [] [] 0 [.mlst (G.map lotV)]
noncomputable def varB : List CS := [(.asg (.name 62) (.comp false [74, 1, 69] (.loc 4) [((.name 4), (.blt .range [(.loc 69)]), [(.cmp .eq (.bin .mod (.bin .fdiv (.bin .add (.cint 1) (.bin .mod (.idx (.loc 74) (.bin .add (.cint 1) (.loc 1))) (.bin .sub (.bin .pow (.cint 2) (.loc 69)) (.cint 1)))) (.bin .pow (.cint 2) (.loc 4))) (.cint 2)) (.cint 1))])])), (.ex (.app (.loc 51) (.loc 62))), (.ex (.meth (.loc 63) 75 [(.call 38 [(.loc 62)])]))]
theorem bit_at (d : Nat) (hw : w = 3 ∨ w = 4) {k : Nat} (hk : 1 + k < cs.length) (hp : Hp) : compTop (evD prog (callN prog 8) (d + 10)) (.loc 4) (.name 4) [(.cmp .eq (.bin .mod (.bin .fdiv (.bin .add (.cint 1) (.bin .mod (.idx (.loc 74) (.bin .add (.cint 1) (.loc 1))) (.bin .sub (.bin .pow (.cint 2) (.loc 69)) (.cint 1)))) (.bin .pow (.cint 2) (.loc 4))) (.cint 2)) (.cint 1))] [] [(74, .val (cellsV cs)), (1, .val (.int (k : Int))), (69, .val (.int (w : Int)))] ((List.range w).map fun (j : Nat) => .int (j : Int)) hp = some (((List.range w).filter fun v => (maskN w (cs.getD (1 + k) 0)).testBit v).map fun (j : Nat) => .int (j : Int), hp) := by
  refine forItems_filter fun v hv => turn_of rfl ?_
  have hv' := List.mem_range.mp hv
  have hpw : 0 < 2 ^ w - 1 := by rcases hw with rfl | rfl <;> decide
  have p2 : 2 ^ v < 1000 := by
    have : 2 ^ v ≤ 2 ^ 4 := Nat.pow_le_pow_right (by decide) (by lia)
    lia
  have a1 := powI (b := w) (by lia)
  have a2 := powI (b := v) (by lia)
  have a3 : binV .sub (.int ((2 ^ w : Nat) : Int)) (.int ((1 : Nat) : Int)) = some (.int ((2 ^ w - 1 : Nat) : Int)) := congrArg (fun i => some (V.int i)) (show ((2 ^ w : Nat) : Int) - ((1 : Nat) : Int) = ((2 ^ w - 1 : Nat) : Int) by lia)
  have a5 := cells_at (cs := cs) (i := 1 + k) hk
  have a6 := modI (cs.getD (1 + k) 0) (2 ^ w - 1) hpw
  have a8 := divI (maskN w (cs.getD (1 + k) 0)) (2 ^ v) (Nat.pow_pos (by decide)) p2
  have a9 := modI (maskN w (cs.getD (1 + k) 0) / 2 ^ v) 2 (by decide)
  have b1 := eqI ((maskN w (cs.getD (1 + k) 0) / 2 ^ v % 2 : Nat) : Int) ((1 : Nat) : Int)
  have b2 : decide (((maskN w (cs.getD (1 + k) 0) / 2 ^ v % 2 : Nat) : Int) = ((1 : Nat) : Int)) = (maskN w (cs.getD (1 + k) 0)).testBit v := by
    rw [Nat.testBit_eq_decide_div_mod_eq, decide_eq_decide]; lia
  rw [b2] at b1
  induction z : (maskN w (cs.getD (1 + k) 0)).testBit v with
  | false =>
    rw [z] at b1
    exact run_K rfl (run_K a5 (run_K a1 (run_K a3 (run_K a6 (run_K rfl (run_K a2 (run_K a8 (run_K a9 (run_K b1 (run_done rfl))))))))))
  | true =>
    rw [z] at b1
    exact run_K rfl (run_K a5 (run_K a1 (run_K a3 (run_K a6 (run_K rfl (run_K a2 (run_K a8 (run_K a9 (run_K b1 (run_done rfl))))))))))
theorem mk_app {G ks : List Nat} {k : Nat} : G ++ [maskN w (cs.getD (1 + k) 0)] ++ mk cs w ks = G ++ mk cs w (k :: ks) := by simp [mk]
theorem vars_go (d : Nat) (hw : w = 3 ∨ w = 4) (hcs : 8 ≤ cs.length) : ∀ (ks : List Nat) (G : List Nat) (o : Option (V × V)), (∀ k ∈ ks, k < 4) → G.length + ks.length ≤ 10 → ∃ o',
    forGo (forB (evD prog (callN prog 8) (d + 15)) (.name 1) varB) (ks.map fun (j : Nat) => .int (j : Int)) (LV p (cellsV cs) kind split many w o) (hpV G) =
      some (.next, LV p (cellsV cs) kind split many w o', hpV (G ++ mk cs w ks)) ∧ (o ≠ none ∨ ks ≠ [] → o' ≠ none)
  | [] => @fun G o _ _ => ⟨o, by rw [show G ++ mk cs w [] = G from List.append_nil G]; rfl, fun h => h.elim id fun h => absurd rfl h⟩
  | k :: ks => @fun G o hk hG => by
    have hk4 := hk k (.head _)
    have hG' : G.length < 4096 := by rw [List.length_cons] at hG; lia
    obtain ⟨m1, m2, m3⟩ := maskN_ok (c := cs.getD (1 + k) 0) hw
    obtain ⟨o', q, f⟩ := vars_go d hw hcs ks (G ++ [maskN w (cs.getD (1 + k) 0)]) (some (.int (k : Int), lotV (maskN w (cs.getD (1 + k) 0)))) (fun j m => hk j (.tail _ m)) (by rw [List.length_append]; simp only [List.length_cons, List.length_nil] at hG ⊢; lia)
    rw [mk_app] at q
    refine ⟨o', ?_, fun _ => f (.inl nofun)⟩
    have hb := b_rng0 (n := w) (by lia)
    have hc : ∀ d hp, compTop (evD prog (callN prog 8) (d + 10)) (.loc 4) (.name 4) [(.cmp .eq (.bin .mod (.bin .fdiv (.bin .add (.cint 1) (.bin .mod (.idx (.loc 74) (.bin .add (.cint 1) (.loc 1))) (.bin .sub (.bin .pow (.cint 2) (.loc 69)) (.cint 1)))) (.bin .pow (.cint 2) (.loc 4))) (.cint 2)) (.cint 1))] [] [(74, .val (cellsV cs)), (1, .val (.int (k : Int))), (69, .val (.int (w : Int)))] (rngItems 0 (w : Int) 1) hp = some ((valsM (maskN w (cs.getD (1 + k) 0))).map nV, hp) := fun d hp => by
      rw [rng0, bit_at d hw (by lia) hp, range_bits hw m1]
      rfl
    have hlen := gd_t (show ((valsM (maskN w (cs.getD (1 + k) 0))).map nV).length ≤ 4096 by
      rw [List.length_map]
      exact Nat.le_trans (List.length_filter_le _ _) (by simp))
    obtain ⟨hh, hdom⟩ := domain_sp 7 m2
    have hnv := amS (new_var_sp 7 (fl := false) (cl := .tup []) (d := G.map domV) (f := G.map domV) (t := []) (m := []) (n := 0) (r := [.mlst (G.map lotV ++ [lotV (maskN w (cs.getD (1 + k) 0))])]) m2 m3 (by simpa using hG') (by simpa using hG'))
    have hG4 := gd_t (show (G.map lotV).length < 4096 by simpa using hG')
    have e : hpV (G ++ [maskN w (cs.getD (1 + k) 0)]) = SH false (.tup []) (G.map domV ++ [domV (maskN w (cs.getD (1 + k) 0))]) (G.map domV ++ [domV (maskN w (cs.getD (1 + k) 0))]) [] [] 0 [.mlst (G.map lotV ++ [lotV (maskN w (cs.getD (1 + k) 0))])] := by
      unfold hpV; simp only [List.map_append]; rfl
    rw [e] at q
    rcases o with _ | _ <;> refine (forGo_next (run_forB rfl ?_)).trans q <;> exact run_K hb (run_K (hc _ _) (run_K hlen (run_K hG4 (run_K rfl (run_K hdom (run_K hnv (run_done rfl)))))))
noncomputable def cellsOf (ns : List Int) : List Nat := (ns.take 8).map Int.natAbs ++ List.replicate 8 0
theorem s_cells {ns : List Int} : S8 [(73, .val (.lst (ns.map .int)))] [] 0 = some (.next, [(73, .val (.lst (ns.map .int))), (74, .val (cellsV (cellsOf ns)))], []) := by
  have hsl : slcV (.lst (ns.map .int)) none (some ((8 : Nat) : Int)) = some (.lst ((ns.take 8).map .int)) := by
    show some (V.lst ((ns.map V.int).take 8)) = _
    rw [← List.map_take]
  have hc : ∀ d, compTop (evD prog (callN prog 8) (d + 6)) (.blt .abs [(.loc 28)]) (.name 28) [] [] [] ((ns.take 8).map .int) [] = some ((ns.take 8).map fun a => V.int ((a.natAbs : Nat) : Int), []) := fun d => by
    refine forItems_map fun a ha => turn_of rfl ?_
    have hab : bltV .abs [.int a] = some (.int ((a.natAbs : Nat) : Int)) := by
      show some (V.int (if a < 0 then -a else a)) = _
      congr 2
      split <;> lia
    exact run_K hab (run_done rfl)
  have hlen := gd_t (show ((ns.take 8).map fun a => V.int ((a.natAbs : Nat) : Int)).length ≤ 4096 by simp; lia)
  have hadd : binV .add (.lst ((ns.take 8).map fun a => V.int ((a.natAbs : Nat) : Int))) (.lst (List.replicate 8 (.int ((0 : Nat) : Int)))) = some (cellsV (cellsOf ns)) := by
    show (if ((ns.take 8).map fun a => V.int ((a.natAbs : Nat) : Int)).length + (List.replicate 8 (V.int ((0 : Nat) : Int))).length ≤ 4096 then some (V.lst (((ns.take 8).map fun a => V.int ((a.natAbs : Nat) : Int)) ++ List.replicate 8 (.int ((0 : Nat) : Int)))) else none) = _
    rw [if_pos (by simp; lia)]
    simp [cellsV, cellsOf, Function.comp_def]
  refine run_S ?_
  exact run_K hsl (run_K (hc _) (run_K hlen (run_K rfl (run_K hadd (run_done rfl)))))
end
end Mine.Internal.P
namespace Mine.Internal.P
theorem new_store (c : Nat) : callN prog (c + 1) 9 [.ref 0] [.inst 0 []] = some (.val .none, SH false (.tup []) [] [] [] [] 0 []) := by kernel_rfl
section
variable {cs : List Nat} {kind split many w : Nat} {hp : Hp} {p c u1 u2 xs ys : V}
theorem s_kinds (hcs : 8 ≤ cs.length) : S8 [(73, .val p), (74, .val (cellsV cs))] hp 1 = some (.next, [(73, .val p), (74, .val (cellsV cs)), (54, .val (.int ((cs.getD 0 0 % 3 : Nat) : Int))), (55, .val (.int ((1 + cs.getD 0 0 / 3 % 2 : Nat) : Int)))], hp) := by
  have a1 := cells_at (cs := cs) (i := 0) (by lia)
  have a2 := modI (cs.getD 0 0) 3 (by decide)
  have a3 := divI (cs.getD 0 0) 3 (by decide) (by decide)
  have a4 := modI (cs.getD 0 0 / 3) 2 (by decide)
  refine run_S ?_
  exact run_K a1 (run_K a2 (run_K a1 (run_K a3 (run_K a4 (run_K rfl (run_done rfl))))))
theorem s_many (hcs : 8 ≤ cs.length) : S8 [(73, .val p), (74, .val (cellsV cs)), (54, .val (.int (kind : Int))), (55, .val (.int (split : Int)))] hp 2 = some (.next, [(73, .val p), (74, .val (cellsV cs)), (54, .val (.int (kind : Int))), (55, .val (.int (split : Int))), (38, .val (.int ((split + 1 + cs.getD 0 0 / 6 % 2 : Nat) : Int)))], hp) := by
  have a1 := cells_at (cs := cs) (i := 0) (by lia)
  have a3 := divI (cs.getD 0 0) 6 (by decide) (by decide)
  have a4 := modI (cs.getD 0 0 / 6) 2 (by decide)
  refine run_S ?_
  exact run_K rfl (run_K a1 (run_K a3 (run_K a4 (run_K rfl (run_done rfl)))))
theorem s_store : S8 [(73, .val p), (74, .val c), (54, .val (.int (kind : Int))), (55, .val (.int (split : Int))), (38, .val (.int (many : Int)))] [] 3 = some (.next, LV p c kind split many (if many < 4 then 4 else 3) none, hpV []) := by
  have hn := new_store 7
  have hl := ltI' (many : Int) ((4 : Nat) : Int)
  refine run_S ?_
  by_cases c : many < 4
  · rw [decide_eq_true (by lia)] at hl
    rw [if_pos c]
    exact run_K hn (run_K hl (run_done rfl))
  · rw [decide_eq_false (by lia)] at hl
    rw [if_neg c]
    exact run_K hn (run_K hl (run_done rfl))
noncomputable def ysV (split many : Nat) : List V := (List.range (many - split)).map fun (j : Nat) => .int ((split + j : Nat) : Int)
theorem rngSM (a b : Nat) : rngItems (a : Int) (b : Int) 1 = ysV a b := by
  unfold rngItems rngN ysV
  rw [if_pos rfl]
  have : ((b : Int) - (a : Int)).toNat = b - a := by lia
  rw [this]
  refine List.map_congr_left fun j _ => ?_
  rw [show (a : Int) + 1 * (j : Int) = ((a + j : Nat) : Int) by lia]
theorem s_lists (h4 : many ≤ 4) (hs : split ≤ 4) {G : Hp} : S8 (LV p c kind split many w (some (u1, u2))) G 5 =
    some (.next, (73, .val p) :: (74, .val c) :: (54, .val (.int (kind : Int))) :: (55, .val (.int (split : Int))) :: (38, .val (.int (many : Int))) :: (63, .ref 0) :: (51, .ref 6) :: (69, .val (.int (w : Int))) :: (1, .val u1) :: (62, .val u2) :: (34, .val (.lst (scopeV split))) :: (35, .val (.lst (ysV split many))) :: [], G) := by
  have b1 := b_rng0 (n := split) (by lia)
  have b2 := b_rng1 (a := split) (n := many) (by lia) (by lia)
  have b3 := b_list (v := .rng 0 (split : Int) 1) (congrArg some (rng0 split)) (by simp; lia)
  have b4 := b_list (v := .rng (split : Int) (many : Int) 1) (congrArg some (rngSM split many)) (by simp [ysV]; lia)
  refine run_S ?_
  exact run_K b1 (run_K b3 (run_K b2 (run_K b4 (run_done rfl))))
noncomputable def RuleMade (kind split many kls : Nat) (rf : List (Nat × RV)) : Prop :=
  ∀ p c w u1 u2 fl cl d f t m n L, S8 ((73, .val p) :: (74, .val c) :: (54, .val (.int (kind : Int))) :: (55, .val (.int (split : Int))) :: (38, .val (.int (many : Int))) :: (63, .ref 0) :: (51, .ref 6) :: (69, .val w) :: (1, .val u1) :: (62, .val u2) :: (34, .val (.lst (scopeV split))) :: (35, .val (.lst (ysV split many))) :: []) (SH fl cl d f t m n [.mlst L]) 6 =
    some (.next, LL p c w u1 u2 (.lst (scopeV split)) (.lst (ysV split many)) kind split many [], SH fl cl d f t m n [.mlst L, .inst kls rf])
theorem made_0_12 : RuleMade 0 1 2 1 (lexR 1 2 false true [(0, 1)]) := fun p c w u1 u2 fl cl d f t m n L => by kernel_rfl
theorem made_1_12 : RuleMade 1 1 2 1 (lexR 1 2 true false [(0, 1)]) := fun p c w u1 u2 fl cl d f t m n L => by kernel_rfl
theorem made_2_12 : RuleMade 2 1 2 2 (incF (scopeV 2)) := fun p c w u1 u2 fl cl d f t m n L => by kernel_rfl
theorem made_0_13 : RuleMade 0 1 3 1 (lexR 1 3 false true [(0, 1)]) := fun p c w u1 u2 fl cl d f t m n L => by kernel_rfl
theorem made_1_13 : RuleMade 1 1 3 1 (lexR 1 3 true true [(0, 1)]) := fun p c w u1 u2 fl cl d f t m n L => by kernel_rfl
theorem made_2_13 : RuleMade 2 1 3 2 (incF (scopeV 3)) := fun p c w u1 u2 fl cl d f t m n L => by kernel_rfl
theorem made_0_23 : RuleMade 0 2 3 1 (lexR 2 3 false false [(0, 2)]) := fun p c w u1 u2 fl cl d f t m n L => by kernel_rfl
theorem made_1_23 : RuleMade 1 2 3 1 (lexR 2 3 true false [(0, 2)]) := fun p c w u1 u2 fl cl d f t m n L => by kernel_rfl
theorem made_2_23 : RuleMade 2 2 3 2 (incF (scopeV 3)) := fun p c w u1 u2 fl cl d f t m n L => by kernel_rfl
theorem made_0_24 : RuleMade 0 2 4 1 (lexR 2 4 false true [(0, 2), (1, 3)]) := fun p c w u1 u2 fl cl d f t m n L => by kernel_rfl
theorem made_1_24 : RuleMade 1 2 4 1 (lexR 2 4 true false [(0, 2), (1, 3)]) := fun p c w u1 u2 fl cl d f t m n L => by kernel_rfl
theorem made_2_24 : RuleMade 2 2 4 2 (incF (scopeV 4)) := fun p c w u1 u2 fl cl d f t m n L => by kernel_rfl
theorem law_head {kls fck fpr : Nat} {rf : List (Nat × RV)} {pass : St → Bool × St} {K : List Int → Prop} (C : Cfg kind split many kls fck fpr rf pass K) (hr : RuleMade kind split many kls rf) (hcs : 8 ≤ cs.length) :
    ∃ loc' hp', blkL 3 [(73, .val p), (74, .val (cellsV cs)), (54, .val (.int (kind : Int))), (55, .val (.int (split : Int))), (38, .val (.int (many : Int)))] [] = some (.ret (.val (.bool true)), loc', hp') := by
  have hm4 := C.ro.hm
  have hs2 := C.ro.hs
  have hm0 := C.hm0
  have S3 := s_store (p := p) (c := cellsV cs) (kind := kind) (split := split) (many := many)
  generalize hw : (if many < 4 then 4 else 3 : Nat) = w at S3
  have hw34 : w = 3 ∨ w = 4 := by rw [← hw]; split <;> simp
  obtain ⟨o, q, f⟩ := vars_go (cs := cs) (w := w) (p := p) (kind := kind) (split := split) (many := many) 8 hw34 hcs (List.range many) [] none (fun k m => by have := List.mem_range.mp m; lia) (by simp; lia)
  have ho := f (.inr (by intro e; have := congrArg List.length e; simp at this; lia))
  obtain ⟨⟨u1, u2⟩, rfl⟩ := Option.ne_none_iff_exists'.mp ho
  generalize hF : [] ++ mk cs w (List.range many) = F at q
  have hFl : F.length = many := by rw [← hF]; simp [mk]
  have hFm : ∀ m ∈ F, m < 16 ∧ m ≠ 0 := fun m mm => by
    rw [← hF] at mm
    obtain ⟨k, _, rfl⟩ := List.mem_map.mp (show m ∈ mk cs w (List.range many) from mm)
    exact (maskN_ok hw34).2
  have S4 : S8 (LV p (cellsV cs) kind split many w none) (hpV []) 4 = some (.next, LV p (cellsV cs) kind split many w (some (u1, u2)), hpV F) := by
    have hb := b_rng0 (n := many) (by lia)
    rw [← rng0] at q
    refine run_S ?_
    exact run_K hb (run_K q (run_done rfl))
  obtain ⟨loc', hp', h⟩ := law_tail C hFl hFm (cs := cs) (p := p) (w := .int (w : Int)) (u1 := u1) (u2 := u2) (xs := .lst (scopeV split)) (ys := .lst (ysV split many))
  exact ⟨loc', hp', at_ 3 (by decide) S3 (at_ 4 (by decide) S4 (at_ 5 (by decide) (s_lists hm4 (by lia)) (at_ 6 (by decide) (hr _ _ _ _ _ _ _ _ _ _ _ _ _) h)))⟩
end
theorem LAW (ns : List Int) : ∃ hp', callN prog 9 43 [.val (.lst (ns.map .int))] [] = some (.val (.bool true), hp') := by
  have hcs : 8 ≤ (cellsOf ns).length := by simp [cellsOf]
  have S0 := s_cells (ns := ns)
  generalize cellsOf ns = cs at *
  have go : ∀ {kind split many kls fck fpr : Nat} {rf : List (Nat × RV)} {pass : St → Bool × St} {K : List Int → Prop}, cs.getD 0 0 % 3 = kind → 1 + cs.getD 0 0 / 3 % 2 = split → split + 1 + cs.getD 0 0 / 6 % 2 = many → Cfg kind split many kls fck fpr rf pass K → RuleMade kind split many kls rf →
      ∃ hp', callN prog 9 43 [.val (.lst (ns.map .int))] [] = some (.val (.bool true), hp') := by
    intro kind split many kls fck fpr rf pass K e1 e2 e3 C hr
    obtain ⟨loc', hp', h⟩ := law_head (p := .lst (ns.map .int)) C hr hcs
    have S1 := s_kinds (p := .lst (ns.map .int)) (hp := []) hcs
    have S2 := s_many (p := .lst (ns.map .int)) (kind := kind) (split := split) (hp := []) hcs
    rw [e1, e2] at S1
    rw [e3] at S2
    have B : blkL 0 [(73, .val (.lst (ns.map .int)))] [] = some (.ret (.val (.bool true)), loc', hp') := at_ 0 (by decide) S0 (at_ 1 (by decide) S1 (at_ 2 (by decide) S2 h))
    refine ⟨hp', ?_⟩
    show vS none (blkL 0 [(73, .val (.lst (ns.map .int)))] []) (fun q => some (outRV q)) = _
    rw [B]
    rfl
  have k3 : cs.getD 0 0 % 3 = 0 ∨ cs.getD 0 0 % 3 = 1 ∨ cs.getD 0 0 % 3 = 2 := by lia
  have s2 : cs.getD 0 0 / 3 % 2 = 0 ∨ cs.getD 0 0 / 3 % 2 = 1 := by lia
  have m2 : cs.getD 0 0 / 6 % 2 = 0 ∨ cs.getD 0 0 / 6 % 2 = 1 := by lia
  rcases s2 with s | s <;> rcases m2 with m | m <;> rcases k3 with k | k | k
  · exact go k (split := 1) (by lia) (many := 2) (by lia) cfg_0_12 made_0_12
  · exact go k (split := 1) (by lia) (many := 2) (by lia) cfg_1_12 made_1_12
  · exact go k (split := 1) (by lia) (many := 2) (by lia) cfg_2_12 made_2_12
  · exact go k (split := 1) (by lia) (many := 3) (by lia) cfg_0_13 made_0_13
  · exact go k (split := 1) (by lia) (many := 3) (by lia) cfg_1_13 made_1_13
  · exact go k (split := 1) (by lia) (many := 3) (by lia) cfg_2_13 made_2_13
  · exact go k (split := 2) (by lia) (many := 3) (by lia) cfg_0_23 made_0_23
  · exact go k (split := 2) (by lia) (many := 3) (by lia) cfg_1_23 made_1_23
  · exact go k (split := 2) (by lia) (many := 3) (by lia) cfg_2_23 made_2_23
  · exact go k (split := 2) (by lia) (many := 4) (by lia) cfg_0_24 made_0_24
  · exact go k (split := 2) (by lia) (many := 4) (by lia) cfg_1_24 made_1_24
  · exact go k (split := 2) (by lia) (many := 4) (by lia) cfg_2_24 made_2_24
end Mine.Internal.P
theorem PySem.Challenge.cw_no0309_01_holds : PySem.Challenge.rw_no0309_01.Holds := by
  exact Mine.Internal.law_join fun ns _ => Mine.Internal.P.LAW ns
