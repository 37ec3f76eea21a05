import PyProof.Rows.All
import Wide.All
import OpenK.AllK
import Wide.FinOn
import HandS.ForMost
import HandS.ForExc
import HandS.IsInst
import HandS.Deep
import HandS.Wide
import HandS.CallSlots
import HandS.Zip
import HandS.TupAny
import PyProof.TwoTypes
import PyProof.TwoTypesSub
import PyProof.Walk
import PyProof.WalkLemmas
import PyProof.AutoIntG7
import PyProof.AutoIntG9
import HandS.Exc
import HandS.TryOnly
import HandS.ExcInit
import HandS.ExcOwn
import KE.KExcInit
import OpenK.KCls
import HandS.WordsExc
import HandS.Dict
import HandS.DictTup
import HandS.BoundDict
import PyProof.DictMoreH
import PyProof.Rows.TupTab
import HandS.TupMul
import PyProof.P3In
import PyProof.ReprRoads
import HandS.List
import HandS.Sort
import HandS.SortOrd
import HandS.SortRule
import HandS.SortInts
import HandS.TupLe
import HandS.Replace
import HandS.StrMore
import HandS.Text
import HandS.Iter
import KE.GoesMore
import PyProof.EnumMake
import KE.KRevSl
import HandS.Style
import HandS.More
import HandS.ExcIs
import HandS.ExcField
import HandS.IterVal
import HandS.WideMore
import HandS.Ends
import HandS.Defaults
import PyProof.ReprLen
import PyProof.StrLawsRepr
import PyProof.Rows.ReprOcc
import PySem.Challenge.RW_twicecalls_k12_steps_and_letters
set_option Elab.async false
set_option linter.all false
set_option maxRecDepth 100000
namespace Mi
open PySem PySem.Spec PyProof.Rows L2

/-! ### an order of plain data -/
def lexI : List Int → List Int → Bool
  | [], [] => false
  | [], _ :: _ => true
  | _ :: _, [] => false
  | a :: l, b :: m => decide (a < b) || (decide (a = b) && lexI l m)
theorem lexI_irr : ∀ l : List Int, lexI l l = false
  | [] => rfl
  | a :: l => by simp [lexI, lexI_irr l]
theorem lexI_asym : ∀ (l m : List Int), lexI l m = true → lexI m l = false
  | [], [], h => by cases h
  | [], _ :: _, _ => rfl
  | _ :: _, [], h => by cases h
  | a :: l, b :: m, h => by
    simp only [lexI, Bool.or_eq_true, Bool.and_eq_true, decide_eq_true_eq] at h
    simp only [lexI, Bool.or_eq_false_iff, decide_eq_false_iff_not]
    rcases h with h | ⟨rfl, h⟩
    · exact ⟨by omega, by rw [show decide (b = a) = false from decide_eq_false (by omega)]; rfl⟩
    · exact ⟨by omega, by rw [lexI_asym l m h, Bool.and_false]⟩
theorem lexI_tr : ∀ (l m n : List Int), lexI m l = false → lexI n m = false → lexI n l = false
  | [], m, n, h1, h2 => by cases n <;> rfl
  | a :: l, [], n, h1, h2 => by cases h1
  | a :: l, b :: m, [], h1, h2 => by cases h2
  | a :: l, b :: m, c :: n, h1, h2 => by
    simp only [lexI, Bool.or_eq_false_iff, decide_eq_false_iff_not, Bool.and_eq_false_iff] at h1 h2 ⊢
    refine ⟨by omega, ?_⟩
    by_cases e : c = a
    · right
      have e1 : b = a := by omega
      have e2 : c = b := by omega
      exact lexI_tr l m n (h1.2.resolve_left (by omega)) (h2.2.resolve_left (by omega))
    · exact .inl e
mutual
def enc : PyData → List Int
  | .int i => [i]
  | .bool b => [if b then 1 else 0]
  | .str s => (s.cps.toList.map fun c => ((c : Nat) : Int) + 1) ++ [0]
  | .tuple l => encs l ++ [0]
  | _ => []
def encs : List PyData → List Int
  | [] => []
  | x :: r => 1 :: (enc x ++ encs r)
end
mutual
/-- of one shape, so that the one may be less than the other -/
def cmpb : PyData → PyData → Bool
  | .int _, .int _ => true
  | .bool _, .bool _ => true
  | .str _, .str _ => true
  | .tuple l, .tuple m => cmpbs l m
  | _, _ => false
def cmpbs : List PyData → List PyData → Bool
  | a :: l, b :: m => cmpb a b && cmpbs l m
  | _, _ => true
end
def ltP (a b : PyData) : Bool := lexI (enc a) (enc b)
/-! ### the sort -/
section
variable {α : Type} (lt : α → α → Bool)
def ins1 (x : α) : List α → List α
  | [] => [x]
  | y :: r => if lt y x = true then y :: ins1 x r else x :: y :: r
def sortG : List α → List α
  | [] => []
  | x :: r => ins1 lt x (sortG r)
end
def kLt {α : Type} (k : α → PyData) (x y : α) : Bool := ltP (k x) (k y)
/-- each may stand beside each -/
def cmpAll (ds : List PyData) : Bool := ds.all fun d => ds.all fun e => cmpb d e
theorem cmpAll_at {ds : List PyData} (h : cmpAll ds = true) : ∀ d ∈ ds, ∀ e ∈ ds, cmpb d e = true := fun d hd e he => by
  unfold cmpAll at h
  exact List.all_eq_true.mp (List.all_eq_true.mp h d hd) e he
end Mi

namespace Mi
open PySem PySem.Spec PyProof.Rows L2
theorem sub_int_bool : isSubtype (.type "int") (.type "bool") = pure false := by rw [isSubtype_type]; kernel_rfl
theorem gives_add_bi (p : Bool) (b : Int) (u : Tok) : Gives (Builtin.«int.__add__» ⟨[.bool p, .int b u], []⟩) (.int (b2i p + b)) :=
  .of_wp fun M A E s Q h => by obtain ⟨hp, g, d, tk, os⟩ := s; wp_walk; exact ⟨_, rfl, h⟩
theorem gives_sub_bi (p : Bool) (b : Int) (u : Tok) : Gives (Builtin.«int.__sub__» ⟨[.bool p, .int b u], []⟩) (.int (b2i p - b)) :=
  .of_wp fun M A E s Q h => by obtain ⟨hp, g, d, tk, os⟩ := s; wp_walk; exact ⟨_, rfl, h⟩
theorem gives_neg_b (p : Bool) : Gives (Builtin.«int.__neg__» ⟨[.bool p], []⟩) (.int (- b2i p)) :=
  .of_wp fun M A E s Q h => by obtain ⟨hp, g, d, tk, os⟩ := s; wp_walk; exact ⟨_, rfl, h⟩
section
variable {X : Cx}
theorem op_add_bi : OpR X (binaryOp .Add) (fun x y H Q => ∃ k i, x = .bl k ∧ y = .int i ∧ Q (.int (b2i k + i)) H) := by
  rintro pins s σ H x y v u Q I rx ry ⟨k, i, rfl, rfl, q⟩
  cases rx
  obtain ⟨t, rfl⟩ := ry
  exact binaryOp_left_gives (op := .Add) (T := "bool") (U := "int") (by decide) rfl (fun s' => typeIs_int s' i t) F.fills_bool_add F.fills_int_add sub_int_bool F.slot_bool_add F.slot_int_radd F.entry_int_add (F.args_int_add_2 _ _)
    (gives_add_bi k i t) trivial ⟨.int _, H, I.tok _, ⟨_, rfl⟩, q⟩
theorem op_sub_bi : OpR X (binaryOp .Sub) (fun x y H Q => ∃ k i, x = .bl k ∧ y = .int i ∧ Q (.int (b2i k - i)) H) := by
  rintro pins s σ H x y v u Q I rx ry ⟨k, i, rfl, rfl, q⟩
  cases rx
  obtain ⟨t, rfl⟩ := ry
  exact binaryOp_left_gives (op := .Sub) (T := "bool") (U := "int") (by decide) rfl (fun s' => typeIs_int s' i t) F.fills_bool_sub F.fills_int_sub sub_int_bool F.slot_bool_sub F.slot_int_rsub F.entry_int_sub (F.args_int_sub_2 _ _)
    (gives_sub_bi k i t) trivial ⟨.int _, H, I.tok _, ⟨_, rfl⟩, q⟩
theorem un_neg_b : UnR X (unaryOp .USub) (fun x H Q => (∃ i, x = .int i ∧ Q (.int (-i)) H) ∨ ∃ k, x = .bl k ∧ Q (.int (- b2i k)) H) := by
  intro pins s σ H x v Q I rx h
  rcases h with ⟨i, rfl, q⟩ | ⟨k, rfl, q⟩
  · obtain ⟨t, rfl⟩ := rx
    exact neg_int ⟨.int _, H, I.tok _, ⟨_, rfl⟩, q⟩
  · cases rx
    unfold unaryOp
    refine wpAny_holding ?_
    refine wpAny_bind (m := callSpecial? (.bool k) (Str.ofString "__neg__")) (wpAny_callSpecial?_slot (name := Str.ofString "__neg__") (typeIs_bool' s k) F.slot_bool_neg
      (call_gives F.slot_bool_neg (typeIs_bool' s k) F.entry_int_neg (F.args_int_neg_1 _) (gives_neg_b k) ?_))
    exact wpAny_pure ⟨.int _, H, I.tok _, ⟨_, rfl⟩, q⟩
theorem same_ib_sub : reflectedDiffers (.type "int") (.type "bool") "sub" = pure false := by
  unfold reflectedDiffers
  show (typeLookup (.type "bool") (dunderR "sub") >>= fun rb => typeLookup (.type "int") (dunderR "sub") >>= fun ra => pure (rb.isSome && rb != ra)) = pure false
  rw [typeLookup_type, typeLookup_type, builtinLookup_eq_fast]; kernel_rfl
theorem same_ib_mul : reflectedDiffers (.type "int") (.type "bool") "mul" = pure false := by
  unfold reflectedDiffers
  show (typeLookup (.type "bool") (dunderR "mul") >>= fun rb => typeLookup (.type "int") (dunderR "mul") >>= fun ra => pure (rb.isSome && rb != ra)) = pure false
  rw [typeLookup_type, typeLookup_type, builtinLookup_eq_fast]; kernel_rfl
theorem op_sub_ib : OpR X (binaryOp .Sub) (fun x y H Q => ∃ i k, x = .int i ∧ y = .bl k ∧ Q (.int (i - b2i k)) H) := by
  rintro pins s σ H x y v u Q I rx ry ⟨i, k, rfl, rfl, q⟩
  obtain ⟨t, rfl⟩ := rx
  cases ry
  exact binaryOp_sub_gives (op := .Sub) (T := "int") (U := "bool") (by decide) (typeIs_int s i t) rfl F.fills_int_sub F.fills_bool_sub isSubtype_bool_int same_ib_sub F.slot_int_sub F.entry_int_sub (F.args_int_sub_2 _ _)
    (AutoIntG7.int___sub___int_bool_0 i t k) trivial ⟨.int (i - b2i k), H, I.tok _, ⟨_, rfl⟩, q⟩
theorem op_mul_ib : OpR X (binaryOp .Mult) (fun x y H Q => ∃ i k, x = .int i ∧ y = .bl k ∧ Q (.int (i * b2i k)) H) := by
  rintro pins s σ H x y v u Q I rx ry ⟨i, k, rfl, rfl, q⟩
  obtain ⟨t, rfl⟩ := rx
  cases ry
  exact binaryOp_sub_gives (op := .Mult) (T := "int") (U := "bool") (by decide) (typeIs_int s i t) rfl F.fills_int_mul F.fills_bool_mul isSubtype_bool_int same_ib_mul F.slot_int_mul F.entry_int_mul (F.args_int_mul_2 _ _)
    (AutoIntG9.int___mul___int_bool_0 i t k) trivial ⟨.int (i * b2i k), H, I.tok _, ⟨_, rfl⟩, q⟩
theorem iop_sub_ib : OpR X (inplaceOp .Sub) (fun x y H Q => ∃ i k, x = .int i ∧ y = .bl k ∧ Q (.int (i - b2i k)) H) := by
  rintro pins s σ H x y v u Q I rx ry ⟨i, k, rfl, rfl, q⟩
  obtain ⟨t, rfl⟩ := rx
  cases ry
  exact inplaceOp_sub_gives (op := .Sub) (T := "int") (U := "bool") (by decide) (typeIs_int s i t) rfl F.noI_int_sub F.fills_int_sub F.fills_bool_sub isSubtype_bool_int same_ib_sub F.slot_int_sub F.entry_int_sub (F.args_int_sub_2 _ _)
    (AutoIntG7.int___sub___int_bool_0 i t k) trivial ⟨.int (i - b2i k), H, I.tok _, ⟨_, rfl⟩, q⟩
theorem iop_mul_ib : OpR X (inplaceOp .Mult) (fun x y H Q => ∃ i k, x = .int i ∧ y = .bl k ∧ Q (.int (i * b2i k)) H) := by
  rintro pins s σ H x y v u Q I rx ry ⟨i, k, rfl, rfl, q⟩
  obtain ⟨t, rfl⟩ := rx
  cases ry
  exact inplaceOp_sub_gives (op := .Mult) (T := "int") (U := "bool") (by decide) (typeIs_int s i t) rfl F.noI_int_mul F.fills_int_mul F.fills_bool_mul isSubtype_bool_int same_ib_mul F.slot_int_mul F.entry_int_mul (F.args_int_mul_2 _ _)
    (AutoIntG9.int___mul___int_bool_0 i t k) trivial ⟨.int (i * b2i k), H, I.tok _, ⟨_, rfl⟩, q⟩
end
end Mi

/-! Mi: a small language of values as trees. Its terms stand beside the program's own syntax; what a term does is a wish carried backwards. -/
namespace Mi
open PySem L2 PyProof.Rows

/-- a value: None, truths, intsD, texts, tuples, lists that never change, an object that may change, a def -/
inductive D where
  | non | bl (b : Bool) | int (i : Int) | str (s : Str) | tup (l : List D) | lst (l : List D) | ref (a : Addr) | fn (f : Str)
/-- what a slot holds: a value; a list, a dict that nobody else holds -/
inductive SV where
  | d (x : D) | ol (l : List D) | od (l : List (D × D))
/-- what stands at an address that may change -/
inductive MO where
  | lst (l : List D) | dk (l : List (Key × D)) | dt (l : List (List Key × D))
abbrev HpD := Addr → Option MO
abbrev Ev := List (Option SV)
def updD (hp : HpD) (a : Addr) (o : MO) : HpD := fun b => if b = a then some o else hp b
theorem updD_same {hp : HpD} {a : Addr} {o : MO} : updD hp a o a = some o := by unfold updD; rw [if_pos rfl]
theorem updD_ne {hp : HpD} {a b : Addr} {o : MO} (h : b ≠ a) : updD hp a o b = hp b := by unfold updD; rw [if_neg h]
theorem updD_updD {hp : HpD} {a : Addr} {o u : MO} : updD (updD hp a o) a u = updD hp a u := by
  funext b; unfold updD; split <;> rfl

inductive BOp where | add | sub | mul | fdiv | mod | pow | rep
  deriving DecidableEq
inductive COp where | eq | ne | lt | le | gt | ge | isn | isnotn | inn | notin
  deriving DecidableEq
/-- built-in types that isinstance may be asked for -/
inductive Ty where | int | bool | str | tuple | list | dict
  deriving DecidableEq
/-- built-ins of one argument -/
inductive B1 where | len | repr | all | any | sum | max | min | tuple | list | ord | sorted | stro
  deriving DecidableEq
inductive B2 where | min | max
  deriving DecidableEq
/-- built-ins, methods on what stands at an address -/
inductive O1 where | pop
  deriving DecidableEq
inductive O2 where | dx | get | lpop
  deriving DecidableEq
inductive O3 where | get | pop | setd
  deriving DecidableEq
/-- methods that read -/
inductive M1 where | index | count
  deriving DecidableEq
/-- methods without arguments that read -/
inductive M0 where | upper
  deriving DecidableEq

mutual
inductive Ex where
  | v (i : Nat) | int (i : Int) | bl (b : Bool) | non | str (s : Str) | g (x : Str)
  | tup (l : List Ex) | lst (l : List Ex)
  | bin (o : BOp) (a b : Ex) | neg (a : Ex) | no (a : Ex) | an (a b : Ex) | oo (a b : Ex) | ite (c a b : Ex)
  | cmp (o : COp) (a b : Ex) | cmp2 (o p : COp) (a b c : Ex)
  | ix (a i : Ex) | sl (a lo hi : Ex) | back (a : Ex)
  | call (f : Str) (l : List Ex) | calld (f : Str) (l : List Ex) (ds : List D)
  | b1 (f : B1) (a : Ex) | b2 (f : B2) (a b : Ex) | isi (a : Ex) (t : Ty) | m1 (m : M1) (o a : Ex) | m0 (m : M0) (o : Ex)
  | comp (e : Ex) (tg : List Nat) (it : It) (c : Ex) (own : List Nat)
  | rf (a : Ex) | vl (a : Ex)
  | o1 (f : O1) (a : Ex) | o2 (f : O2) (a b : Ex) | o3 (f : O3) (a b c : Ex) | dct (ks : List Str) (vs : List Ex) | dnew (t : Bool)
  | tin (ng : Bool) (t : Str) (fs : List (Str × Str)) (a : Ex) | tix (t : Str) (fs : List (Str × Str)) (a : Ex) | callv (i : Nat) (fl : List Str) (l : List Ex)
/-- what is walked -/
inductive It where
  | e (a : Ex) | rg1 (a : Ex) | rg2 (a b : Ex) | rg3 (a b : Ex) | en (a : Ex) | zp (a b : Ex)
end

inductive Tg where
  | n (i : Nat) | t (l : List Tg) | s (o i : Ex) | ds (o i : Ex)
inductive Mut where | append | extend
  deriving DecidableEq
/-- what an except suite may say: plain values, the error's fields, its kind -/
inductive Xp where
  | v (i : Nat) | int (i : Int) | bl (b : Bool) | non | str (s : Str) | tup (l : List Xp) | fld (i : Nat) (f : Str) | isx (i : Nat) (ns : List Str) (yes no : List Str) | no (a : Xp) | an (a b : Xp) | oo (a b : Xp)
inductive Su where
  | ret (e : Xp) | asg (i : Nat) (e : Xp) | ite (c : Xp) (a b : List Su) | pass | cont | brk
/-- a clause: the class that it names, the slot of its name, what of the classes is it, what not, the suite -/
structure Hd where
  n : Str
  slot : Option Nat
  yes : List Str
  no : List Str
  su : List Su
inductive Sm where
  | asg (t : Tg) (e : Ex) | par (l : List Nat) (es : List Ex) | aug (i : Nat) (o : BOp) (e : Ex) | augS (o i : Ex) (p : BOp) (e : Ex)
  | expr (e : Ex) | mu (m : Mut) (o a : Ex)
  | ite (c : Ex) (a b : List Sm) | whl (c : Ex) (b : List Sm) | fr (t : Tg) (e : It) (b : List Sm)
  | ret (e : Ex) | retN | retV (i : Nat) | brk | cont | pass | fz (i : Nat)
  | rais (c : Str) (fl : List Str) (l : List Ex) | tr (b : List Sm) (hs : List Hd) (els : List Sm)

/-! ### values -/
mutual
/-- as plain data: nothing that may change is in it -/
def D.pd : D → Option PyData
  | .non => some .none
  | .bl b => some (.bool b)
  | .int i => some (.int i)
  | .str s => if PyData.strOk s = true then some (.str s) else none
  | .tup l => (D.pds l).map .tuple
  | .lst l => (D.pds l).map .list
  | .ref _ => none
  | .fn _ => none
def D.pds : List D → Option (List PyData)
  | [] => some []
  | x :: r => match D.pd x, D.pds r with
    | some a, some b => some (a :: b)
    | _, _ => none
end

/-- the items of a list, a tuple -/
def seqD (hp : HpD) : SV → Option (List D)
  | .d (.tup l) => some l
  | .d (.lst l) => some l
  | .d (.ref a) => match hp a with
    | some (.lst l) => some l
    | _ => none
  | .ol l => some l
  | _ => none
/-- of a list alone -/
def lstD (hp : HpD) : SV → Option (List D)
  | .d (.lst l) => some l
  | .d (.ref a) => match hp a with
    | some (.lst l) => some l
    | _ => none
  | .ol l => some l
  | _ => none
def svPd (hp : HpD) : SV → Option PyData
  | .d (.ref a) => match hp a with
    | some (.lst l) => (D.pds l).map .list
    | _ => none
  | .d x => x.pd
  | .ol l => (D.pds l).map .list
  | .od _ => none
abbrev SK := SV → HpD → Prop
abbrev EK := Str → List (Str × D) → HpD → Prop
/-- as a value: a list that nobody else holds never changes from now on -/
def valK (Q : D → HpD → Prop) : SK := fun x hp => match x with
  | .d x => Q x hp
  | .ol l => Q (.lst l) hp
  | .od _ => False
def truK (Q : Bool → HpD → Prop) : SK := fun x hp => match x with
  | .d (.bl b) => Q b hp
  | _ => False
def intK (Q : Int → HpD → Prop) : SK := fun x hp => match x with
  | .d (.int i) => Q i hp
  | _ => False
def strK (Q : Str → HpD → Prop) : SK := fun x hp => match x with
  | .d (.str s) => Q s hp
  | _ => False
/-- whether a word is a key of a written table -/
def tinB (ng : Bool) (fs : List (Str × Str)) (s : Str) : Bool := if ng then !(fs.lookup s).isSome else (fs.lookup s).isSome
/-- two tuples, or two lists -/
def zipK (x y : SV) (hp : HpD) : Prop := (∃ l m, x = .d (.tup l) ∧ y = .d (.tup m)) ∨ ((lstD hp x).isSome = true ∧ (lstD hp y).isSome = true)
def onSome {α : Type} (o : Option α) (k : α → Prop) : Prop := match o with
  | some a => k a
  | none => False

def cut {α : Type} (l : List α) (lo hi : Option Int) : List α := (l.drop (HT.sIx l.length 0 lo)).take (HT.sIx l.length l.length hi - HT.sIx l.length 0 lo)

/-! ### operators -/
def repS (s : Str) (k : Nat) : Str := ⟨(List.replicate k s.cps).foldl (· ++ ·) #[]⟩
/-- as data, or nothing -/
def pdK (x : D) : PyData := x.pd.getD .none
def opBin (o : BOp) (x y : SV) (hp : HpD) (Q : SK) : Prop := match o with
  | .add => match x, y with
    | .d (.int i), .d (.int j) => Q (.d (.int (i + j))) hp
    | .d (.str s), .d (.str t) => s.length + t.length ≤ sizeLine ∧ Q (.d (.str (s ++ t))) hp
    | .d (.tup l), .d (.tup m) => l.length + m.length ≤ sizeLine ∧ Q (.d (.tup (l ++ m))) hp
    | .d (.bl b), .d (.int j) => Q (.d (.int (b2i b + j))) hp
    | x, y => onSome (lstD hp x) fun l => onSome (lstD hp y) fun m => l.length + m.length ≤ sizeLine ∧ Q (.ol (l ++ m)) hp
  | .sub => match x, y with
    | .d (.int i), .d (.int j) => Q (.d (.int (i - j))) hp
    | .d (.bl b), .d (.int j) => Q (.d (.int (b2i b - j))) hp
    | .d (.int i), .d (.bl b) => Q (.d (.int (i - b2i b))) hp
    | _, _ => False
  | .mul => match x, y with
    | .d (.int i), .d (.int j) => CMulW i j ∧ Q (.d (.int (i * j))) hp
    | .d (.int i), .d (.bl b) => Q (.d (.int (i * b2i b))) hp
    | _, _ => False
  | .fdiv => match x, y with
    | .d (.int i), .d (.int j) => CDivW i j ∧ Q (.d (.int (i / j))) hp
    | _, _ => False
  | .mod => match x, y with
    | .d (.int i), .d (.int j) => 0 < j ∧ Q (.d (.int (i % j))) hp
    | _, _ => False
  | .pow => match x, y with
    | .d (.int i), .d (.int j) => CPow i j ∧ Q (.d (.int (i ^ j.toNat))) hp
    | _, _ => False
  | .rep => match x, y with
    | .d (.str s), .d (.int k) => (0 ≤ k ∧ k ≤ 1000 ∧ s.length ≤ 1000) ∧ Q (.d (.str (repS s k.toNat))) hp
    | .d (.tup l), .d (.int k) => (2 ≤ k ∧ k ≤ 1000 ∧ l ≠ [] ∧ l.length ≤ 1000) ∧ Q (.d (.tup (List.replicate k.toNat l).flatten)) hp
    | .ol l, .d (.int k) => (0 ≤ k ∧ k ≤ 1000 ∧ l.length ≤ 1000) ∧ Q (.ol (List.replicate k.toNat l).flatten) hp
    | _, _ => False
def opEq (x y : SV) (hp : HpD) (k : Bool → Prop) : Prop := match x, y with
  | .d (.int i), .d (.int j) => k (decide (i = j))
  | .d (.str i), .d (.str j) => k (decide (i = j))
  | x, y => onSome (svPd hp x) fun a => onSome (svPd hp y) fun b => min a.depth b.depth ≤ 64 ∧ k (PyData.eqv a b)
/-! ### tables: keys are numbers and texts, or tuples of them -/
section
variable {κ α : Type} [DecidableEq κ]
def getK (l : List (κ × α)) (k : κ) : Option α := (l.find? fun p => decide (p.1 = k)).map (·.2)
def setK (l : List (κ × α)) (k : κ) (v : α) : List (κ × α) := if (l.any fun p => decide (p.1 = k)) = true then l.map (fun p => if p.1 = k then (p.1, v) else p) else l ++ [(k, v)]
def delK (l : List (κ × α)) (k : κ) : List (κ × α) := l.filter fun p => decide (p.1 ≠ k)
end
def keyD : D → Option Key
  | .int i => some (.inl i)
  | .str s => some (.inr s)
  | _ => none
def keysD : List D → Option (List Key)
  | [] => some []
  | x :: r => match keyD x, keysD r with
    | some a, some b => some (a :: b)
    | _, _ => none
def keyS : SV → Option Key
  | .d x => keyD x
  | _ => none
def keyT : SV → Option (List Key)
  | .d (.tup l) => keysD l
  | _ => none
/-- what the table that stands at an address says of a key -/
def dictG (x y : SV) (hp : HpD) (k : Option D → Prop) : Prop := match x with
  | .d (.ref a) => match hp a with
    | some (.dk l) => onSome (keyS y) fun i => k (getK l i)
    | some (.dt l) => onSome (keyT y) fun i => k (getK l i)
    | _ => False
  | _ => False
/-- the table that stands at an address gets a value at a key -/
def dictP (x y : SV) (v : D) (hp : HpD) (nx : HpD → Prop) : Prop := match x with
  | .d (.ref a) => match hp a with
    | some (.dk l) => onSome (keyS y) fun i => l.length < sizeLine ∧ nx (updD hp a (.dk (setK l i v)))
    | some (.dt l) => onSome (keyT y) fun i => l.length < sizeLine ∧ nx (updD hp a (.dt (setK l i v)))
    | _ => False
  | _ => False
def isDict (x : SV) (hp : HpD) : Prop := match x with
  | .d (.ref a) => match hp a with
    | some (.dk _) => True
    | some (.dt _) => True
    | _ => False
  | _ => False
def isList (x : SV) (hp : HpD) : Prop := match x with
  | .d (.ref a) => match hp a with
    | some (.lst _) => True
    | _ => False
  | _ => False
def opO1 (f : O1) (x : SV) (hp : HpD) (Q : SK) : Prop := match f with
  | .pop => match x with
    | .d (.ref a) => match hp a with
      | some (.lst l) => onSome l.getLast? fun v => Q (.d v) (updD hp a (.lst l.dropLast))
      | _ => False
    | _ => False
def recO2 (f : O2) (x : SV) (hp : HpD) : Prop := match f with
  | .dx => True
  | .get => isDict x hp
  | .lpop => isList x hp
def opO2 (f : O2) (x y : SV) (hp : HpD) (Q : SK) : Prop := match f with
  | .dx => dictG x y hp fun o => onSome o fun v => Q (.d v) hp
  | .get => dictG x y hp fun o => Q (.d (o.getD .non)) hp
  | .lpop => match x, y with
    | .d (.ref a), .d (.int i) => match hp a with
      | some (.lst l) => onSome (ixN l.length i) fun n => onSome l[n]? fun v => Q (.d v) (updD hp a (.lst (l.eraseIdx n)))
      | _ => False
    | _, _ => False
def opO3 (f : O3) (x y : SV) (z : D) (hp : HpD) (Q : SK) : Prop := match f with
  | .get => dictG x y hp fun o => Q (.d (o.getD z)) hp
  | .setd => dictG x y hp fun o => match o with
    | some v => Q (.d v) hp
    | none => dictP x y z hp fun hp => Q (.d z) hp
  | .pop => match x with
    | .d (.ref a) => match hp a with
      | some (.dk l) => onSome (keyS y) fun i => match getK l i with
        | some v => Q (.d v) (updD hp a (.dk (delK l i)))
        | none => Q (.d z) hp
      | some (.dt l) => onSome (keyT y) fun i => match getK l i with
        | some v => Q (.d v) (updD hp a (.dt (delK l i)))
        | none => Q (.d z) hp
      | _ => False
    | _ => False
def inDict (y : SV) (hp : HpD) : Bool := match y with
  | .d (.ref a) => match hp a with
    | some (.dk _) => true
    | some (.dt _) => true
    | _ => false
  | _ => false
def opIn (x y : SV) (hp : HpD) (k : Bool → Prop) : Prop := if inDict y hp = true then dictG y x hp fun o => k o.isSome else match x, y with
  | .d (.str c), .d (.str z) => c.length = 1 ∧ k (decide (c.cps.getD 0 0 ∈ z.cps.toList))
  | x, y => onSome (svPd hp x) fun a => onSome ((seqD hp y).bind D.pds) fun bs => a.depth ≤ 60 ∧ k (bs.any fun b => PyData.eqv b a)
def opLt (x y : SV) (k : Bool → Prop) : Prop := match x, y with
  | .d (.int i), .d (.int j) => k (decide (i < j))
  | .d (.str s), .d (.str t) => k (decide (s.cps.toList < t.cps.toList))
  | _, _ => False
def opLe (x y : SV) (k : Bool → Prop) : Prop := match x, y with
  | .d (.int i), .d (.int j) => k (decide (i ≤ j))
  | .d (.str s), .d (.str t) => k (!decide (t.cps.toList < s.cps.toList))
  | _, _ => False
def isBl (b : Bool) : SV → Bool
  | .d (.bl c) => decide (c = b)
  | _ => false
def opCmp (o : COp) (x y : SV) (hp : HpD) (k : Bool → Prop) : Prop := match o with
  | .eq => opEq x y hp k
  | .ne => opEq x y hp fun b => k (!b)
  | .lt => opLt x y k
  | .le => opLe x y k
  | .gt => opLt y x k
  | .ge => opLe y x k
  | .isn => match y with
    | .d (.bl b) => k (isBl b x)
    | _ => match x with
      | .d .non => k true
      | _ => k false
  | .isnotn => match y with
    | .d (.bl b) => k (!isBl b x)
    | _ => match x with
      | .d .non => k false
      | _ => k true
  | .inn => opIn x y hp k
  | .notin => opIn x y hp fun b => k (!b)
def tyOf (hp : HpD) : SV → Option Ty
  | .d (.int _) => some .int
  | .d (.bl _) => some .bool
  | .d (.str _) => some .str
  | .d (.tup _) => some .tuple
  | .d (.lst _) => some .list
  | .ol _ => some .list
  | .od _ => some .dict
  | .d (.ref a) => match hp a with
    | some (.lst _) => some .list
    | _ => none
  | _ => none
def isTy (hp : HpD) (t : Ty) : SV → Option Bool
  | .d .non => some false
  | x => (tyOf hp x).map fun u => u == t || (u == .bool && t == .int)
def opIx (x : SV) (i : Int) (hp : HpD) (Q : SK) : Prop := match x with
  | .d (.str z) => z.length ≤ sizeLine ∧ onSome (atI z.cps.toList i) fun c => Q (.d (.str ⟨#[c]⟩)) hp
  | x => onSome (seqD hp x) fun l => onSome (atI l i) fun y => Q (.d y) hp
def opSl (x : SV) (lo hi : Option Int) (hp : HpD) (Q : SK) : Prop := match x with
  | .d (.str z) => z.length ≤ sizeLine ∧ Q (.d (.str (cutS z lo hi))) hp
  | .d (.tup l) => Q (.d (.tup (cut l lo hi))) hp
  | x => onSome (lstD hp x) fun l => Q (.ol (cut l lo hi)) hp
def revS (z : Str) : Str := ⟨((Builtin.Str.strSliceIndices none none (-1) z.length).filterMap (z.cps[·]?)).toArray⟩
def opBack (x : SV) (hp : HpD) (Q : SK) : Prop := match x with
  | .d (.tup l) => Q (.d (.tup l.reverse)) hp
  | .d (.str z) => (revS z).length ≤ sizeLine ∧ Q (.d (.str (revS z))) hp
  | x => onSome (lstD hp x) fun l => Q (.ol l.reverse) hp
def boolsD : List D → Option (List Bool)
  | [] => some []
  | .bl b :: r => (boolsD r).map (b :: ·)
  | _ => none
def intsD : List D → Option (List Int)
  | [] => some []
  | .int b :: r => (intsD r).map (b :: ·)
  | _ => none
def maxI : Int → List Int → Int
  | m, [] => m
  | m, x :: r => maxI (if x > m then x else m) r
def minI : Int → List Int → Int
  | m, [] => m
  | m, x :: r => minI (if x < m then x else m) r
def opB1 (f : B1) (x : SV) (hp : HpD) (Q : SK) : Prop := match f with
  | .len => match x with
    | .d (.str z) => z.length ≤ sizeLine ∧ Q (.d (.int z.length)) hp
    | x => onSome (seqD hp x) fun l => Q (.d (.int l.length)) hp
  | .repr => onSome (svPd hp x) fun a => a.depth ≤ 64 ∧ a.showable = true ∧ a.shown.length ≤ sizeLine ∧ Q (.d (.str a.shown)) hp
  | .all => onSome ((lstD hp x).bind boolsD) fun l => Q (.d (.bl (l.all id))) hp
  | .any => onSome ((lstD hp x).bind boolsD) fun l => Q (.d (.bl (l.any id))) hp
  | .sum => onSome ((lstD hp x).bind intsD) fun l => Q (.d (.int l.sum)) hp
  | .max => onSome ((seqD hp x).bind intsD) fun l => match l with
    | [] => False
    | m :: r => Q (.d (.int (maxI m r))) hp
  | .min => onSome ((seqD hp x).bind intsD) fun l => match l with
    | [] => False
    | m :: r => Q (.d (.int (minI m r))) hp
  | .tuple => onSome (seqD hp x) fun l => Q (.d (.tup l)) hp
  | .list => onSome (seqD hp x) fun l => Q (.ol l) hp
  | .ord => match x with
    | .d (.str z) => z.length = 1 ∧ Q (.d (.int (z.cps.getD 0 0 : Nat))) hp
    | _ => False
  | .stro => match x with
    | .d (.int i) => i.natAbs.log2 < 1920 ∧ Q (.d (.str (toString i))) hp
    | .d (.bl b) => Q (.d (.str (if b then "True" else "False"))) hp
    | _ => False
  | .sorted => onSome (lstD hp x) fun l => onSome (D.pds l) fun ds => (PyData.depthAll ds ≤ 60 ∧ cmpAll ds = true) ∧ Q (.ol (sortG (kLt pdK) l)) hp
def opB2 (f : B2) (x y : SV) (hp : HpD) (Q : SK) : Prop := match x, y with
  | .d (.int i), .d (.int j) => match f with
    | .min => Q (.d (.int (if j < i then j else i))) hp
    | .max => Q (.d (.int (if j > i then j else i))) hp
  | _, _ => False
def opNeg (x : SV) (hp : HpD) (Q : SK) : Prop := match x with
  | .d (.int i) => Q (.d (.int (-i))) hp
  | .d (.bl b) => Q (.d (.int (- b2i b))) hp
  | _ => False
def idxOf (a : PyData) : List PyData → Option Nat
  | [] => none
  | b :: r => if PyData.eqv b a then some 0 else (idxOf a r).map (· + 1)
def opM1 (m : M1) (x y : SV) (hp : HpD) (Q : SK) : Prop := match m with
  | .index => match x, y with
    | .d (.str z), .d (.str c) => ∃ i rest, Builtin.Str.occurrences z c 0 z.length 1 = i :: rest ∧ Q (.d (.int (i : Nat))) hp
    | _, _ => False
  | .count => False
/-- what the method is asked of -/
def recM (m : M1) (x : SV) : Prop := match m, x with
  | .index, .d (.str _) => True
  | .count, .d (.str _) => True
  | _, _ => False
def opM0 (m : M0) (x : SV) (hp : HpD) (Q : SK) : Prop := match m with
  | .upper => match x with
    | .d (.str z) => z.length ≤ 5592405 ∧ Q (.d (.str (Txt.upper z))) hp
    | _ => False

/-! ### what is walked: its items; what has to hold at each turn -/
structure Src where
  l : List D
  g : HpD → Prop
def rangeD (lo : Int) : Nat → List D
  | 0 => []
  | n + 1 => .int lo :: rangeD (lo + 1) n
def downD (lo : Int) : Nat → List D
  | 0 => []
  | n + 1 => .int lo :: downD (lo - 1) n
def enumD (i : Int) : List D → List D
  | [] => []
  | x :: r => .tup [.int i, x] :: enumD (i + 1) r
def zipD : List D → List D → List D
  | x :: r, y :: s => .tup [x, y] :: zipD r s
  | _, _ => []
/-- the guard of a list that stands at an address -/
def grd (l : List D) : SV → HpD → Prop
  | .d (.ref a), hp => hp a = some (.lst l)
  | _, _ => True
def srcK (Q : Src → HpD → Prop) : SK := fun x hp => match x with
  | .d (.str z) => Q ⟨z.cps.toList.map fun c => .str ⟨#[c]⟩, fun _ => True⟩ hp
  | x => onSome (seqD hp x) fun l => Q ⟨l, grd l x⟩ hp

/-- a comprehension's turns -/
def compL (step : D → HpD → (Option D → HpD → Prop) → Prop) (g : HpD → Prop) : List D → List D → HpD → (List D → HpD → Prop) → Prop
  | [], acc, hp, k => g hp ∧ k acc hp
  | x :: r, acc, hp, k => g hp ∧ step x hp fun o hp' => match o with
    | none => compL step g r acc hp' k
    | some y => acc.length < sizeLine ∧ compL step g r (acc ++ [y]) hp' k
/-- a loop's turns -/
def loopL (step : D → Ev → HpD → (Ev → HpD → Prop) → Prop) (g : HpD → Prop) : List D → Ev → HpD → (Ev → HpD → Prop) → Prop
  | [], ev, hp, k => g hp ∧ k ev hp
  | x :: r, ev, hp, k => g hp ∧ step x ev hp fun ev' hp' => loopL step g r ev' hp' k
/-- no list of one's own stands at these places -/
def noOl (ev : Ev) (own : List Nat) : Bool := own.all fun i => match ev[i]? with
  | some (some (.ol _)) => false
  | _ => true
def wipeD (ev : Ev) : List Nat → Ev
  | [] => ev
  | i :: is => (wipeD ev is).set i none
def setAll : List Nat → List D → Ev → Option Ev
  | [], [], ev => some ev
  | i :: is, x :: xs, ev => setAll is xs (ev.set i (some (.d x)))
  | _, _, _ => none
/-- a comprehension's target: one name, or a tuple's names -/
def tgSet (tg : List Nat) (x : D) (ev : Ev) : Option Ev := match tg with
  | [i] => some (ev.set i (some (.d x)))
  | tg => match x with
    | .tup l => setAll tg l ev
    | _ => none

abbrev CallT := Str → List D → HpD → SK → EK → Prop
abbrev noE : EK := fun _ _ _ => False
/-- a constant of the module -/
abbrev ConT := Str → Option D
def slotK (ev : Ev) (i : Nat) (k : SV → Prop) : Prop := match ev[i]? with
  | some (some x) => k x
  | _ => False
/-- a name's value may be looked at whoever holds it -/
def borK (e : Ex) (ev : Ev) (hp : HpD) (w : SK → Prop) (Q : SK) : Prop := match e with
  | .v i => slotK ev i fun x => Q x hp
  | _ => w Q
def borB (b : Bool) (e : Ex) (ev : Ev) (hp : HpD) (w : SK → Prop) (Q : SK) : Prop := match b with
  | true => borK e ev hp w Q
  | false => w Q
/-- a part of a slice: None where it is left out -/
def prtK (e : Ex) (hp : HpD) (w : SK → Prop) (Q : Option Int → HpD → Prop) : Prop := match e with
  | .non => Q none hp
  | _ => w (intK fun i hp => Q (some i) hp)

section
variable (cl : CallT) (co : ConT)
mutual
def wr : Ex → Ev → HpD → SK → EK → Prop
  | .v i, ev, hp, Q, _ => slotK ev i fun x => match x with
    | .d x => Q (.d x) hp
    | _ => False
  | .int i, _, hp, Q, _ => Q (.d (.int i)) hp
  | .bl b, _, hp, Q, _ => Q (.d (.bl b)) hp
  | .non, _, hp, Q, _ => Q (.d .non) hp
  | .str s, _, hp, Q, _ => Q (.d (.str s)) hp
  | .g x, _, hp, Q, _ => onSome (co x) fun d => Q (.d d) hp
  | .tup l, ev, hp, Q, E => was l ev hp (fun ds hp => Q (.d (.tup ds)) hp) E
  | .lst l, ev, hp, Q, E => was l ev hp (fun ds hp => Q (.ol ds) hp) E
  | .bin o a b, ev, hp, Q, E => borK a ev hp (fun Q => wr a ev hp Q E) fun x hp => borK b ev hp (fun Q => wr b ev hp Q E) fun y hp => opBin o x y hp Q
  | .neg a, ev, hp, Q, E => wr a ev hp (fun x hp => opNeg x hp Q) E
  | .no a, ev, hp, Q, E => wr a ev hp (truK fun b hp => Q (.d (.bl (!b))) hp) E
  | .an a b, ev, hp, Q, E => wr a ev hp (truK fun c hp => if c = true then wr b ev hp Q E else Q (.d (.bl false)) hp) E
  | .oo a b, ev, hp, Q, E => wr a ev hp (truK fun c hp => if c = true then Q (.d (.bl true)) hp else wr b ev hp Q E) E
  | .ite c a b, ev, hp, Q, E => wr c ev hp (truK fun c hp => if c = true then wr a ev hp Q E else wr b ev hp Q E) E
  | .cmp o a b, ev, hp, Q, E => borK a ev hp (fun Q => wr a ev hp Q E) fun x hp => borK b ev hp (fun Q => wr b ev hp Q E) fun y hp => opCmp o x y hp fun c => Q (.d (.bl c)) hp
  | .cmp2 o p a b c, ev, hp, Q, E => borK a ev hp (fun Q => wr a ev hp Q E) fun x hp => borK b ev hp (fun Q => wr b ev hp Q E) fun y hp => opCmp o x y hp fun t =>
      if t = true then borK c ev hp (fun Q => wr c ev hp Q E) fun z hp => opCmp p y z hp fun c => Q (.d (.bl c)) hp else Q (.d (.bl false)) hp
  | .ix a i, ev, hp, Q, E => borK a ev hp (fun Q => wr a ev hp Q E) fun x hp => wr i ev hp (intK fun i hp => opIx x i hp Q) E
  | .sl a lo hi, ev, hp, Q, E => borK a ev hp (fun Q => wr a ev hp Q E) fun x hp => prtK lo hp (fun Q => wr lo ev hp Q E) fun l hp => prtK hi hp (fun Q => wr hi ev hp Q E) fun u hp => opSl x l u hp Q
  | .back a, ev, hp, Q, E => borK a ev hp (fun Q => wr a ev hp Q E) fun x hp => opBack x hp Q
  | .call f l, ev, hp, Q, E => was l ev hp (fun ds hp => cl f ds hp Q E) E
  | .calld f l dv, ev, hp, Q, E => was l ev hp (fun ds hp => cl f (ds ++ dv) hp Q E) E
  | .b1 f a, ev, hp, Q, E => borK a ev hp (fun Q => wr a ev hp Q E) fun x hp => opB1 f x hp Q
  | .b2 f a b, ev, hp, Q, E => wr a ev hp (fun x hp => wr b ev hp (fun y hp => opB2 f x y hp Q) E) E
  | .isi a t, ev, hp, Q, E => borK a ev hp (fun Q => wr a ev hp Q E) fun x hp => onSome (isTy hp t x) fun b => Q (.d (.bl b)) hp
  | .m1 m o a, ev, hp, Q, E => borK o ev hp (fun Q => wr o ev hp Q E) fun x hp => recM m x ∧ wr a ev hp (fun y hp => opM1 m x y hp Q) E
  | .m0 m o, ev, hp, Q, E => borK o ev hp (fun Q => wr o ev hp Q E) fun x hp => opM0 m x hp Q
  | .comp e tg it c own, ev, hp, Q, E => noOl ev own = true ∧ wi it true ev hp (fun s hp => compL (fun x hp k => onSome (tgSet tg x (wipeD ev own)) fun ev' =>
      wr c ev' hp (truK fun b hp => if b = true then wr e ev' hp (valK fun y hp => k (some y) hp) noE else k none hp) noE) s.g s.l [] hp fun acc hp => Q (.ol acc) hp) E
  | .vl a, ev, hp, Q, E => wr a ev hp (valK fun d hp => Q (.d d) hp) E
  | .rf a, ev, hp, Q, E => wr a ev hp (fun x hp => match x with
    | .ol l => ∀ p, hp p = none → Q (.d (.ref p)) (updD hp p (.lst l))
    | _ => False) E
  | .o1 f a, ev, hp, Q, E => wr a ev hp (fun x hp => opO1 f x hp Q) E
  | .o2 f a b, ev, hp, Q, E => wr a ev hp (fun x hp => recO2 f x hp ∧ wr b ev hp (fun y hp => opO2 f x y hp Q) E) E
  | .o3 f a b c, ev, hp, Q, E => wr a ev hp (fun x hp => isDict x hp ∧ wr b ev hp (fun y hp => wr c ev hp (valK fun z hp => opO3 f x y z hp Q) E) E) E
  | .dct ks vs, ev, hp, Q, _ => was vs ev hp (fun ds hp => ∀ p, hp p = none → Q (.d (.ref p)) (updD hp p (.dk (List.zipWith (fun k d => (Sum.inr k, d)) ks ds)))) noE
  | .dnew t, _, hp, Q, _ => ∀ p, hp p = none → Q (.d (.ref p)) (updD hp p (if t then .dt [] else .dk []))
  | .tin ng _ fs a, ev, hp, Q, E => wr a ev hp (strK fun s hp => Q (.d (.bl (tinB ng fs s))) hp) E
  | .tix _ fs a, ev, hp, Q, E => wr a ev hp (strK fun s hp => onSome (fs.lookup s) fun f => Q (.d (.fn f)) hp) E
  | .callv i fl l, ev, hp, Q, E => ∃ f, ev[i]? = some (some (.d (.fn f))) ∧ f ∈ fl ∧ was l ev hp (fun ds hp => cl f ds hp Q E) E
def was : List Ex → Ev → HpD → (List D → HpD → Prop) → EK → Prop
  | [], _, hp, Q, _ => Q [] hp
  | e :: r, ev, hp, Q, E => wr e ev hp (valK fun x hp => was r ev hp (fun xs hp => Q (x :: xs) hp) E) E
/-- what is walked -/
def wi : It → Bool → Ev → HpD → (Src → HpD → Prop) → EK → Prop
  | .rg1 a, _, ev, hp, Q, E => wr a ev hp (intK fun n hp => (-(2 ^ 62) ≤ n ∧ n < 2 ^ 62) ∧ Q ⟨rangeD 0 n.toNat, fun _ => True⟩ hp) E
  | .rg2 a b, _, ev, hp, Q, E => wr a ev hp (intK fun i hp => wr b ev hp (intK fun j hp => (-(2 ^ 62) ≤ i ∧ i < 2 ^ 62 ∧ -(2 ^ 62) ≤ j ∧ j < 2 ^ 62) ∧ Q ⟨rangeD i (j - i).toNat, fun _ => True⟩ hp) E) E
  | .rg3 a b, _, ev, hp, Q, E => wr a ev hp (intK fun i hp => wr b ev hp (intK fun j hp => (-(2 ^ 61) ≤ i ∧ i < 2 ^ 61 ∧ -(2 ^ 61) ≤ j ∧ j < 2 ^ 61) ∧ Q ⟨downD i (i - j).toNat, fun _ => True⟩ hp) E) E
  | .en a, w, ev, hp, Q, E => borB w a ev hp (fun Q => wr a ev hp Q E) fun x hp => onSome (seqD hp x) fun l => Q ⟨enumD 0 l, grd l x⟩ hp
  | .zp a b, w, ev, hp, Q, E => borB w a ev hp (fun Q => wr a ev hp Q E) fun x hp => borB w b ev hp (fun Q => wr b ev hp Q E) fun y hp =>
      zipK x y hp ∧ onSome (seqD hp x) fun l => onSome (seqD hp y) fun m => Q ⟨zipD l m, fun hp => grd l x hp ∧ grd m y hp⟩ hp
  | .e a, w, ev, hp, Q, E => borB w a ev hp (fun Q => wr a ev hp Q E) (srcK Q)
end
end
end Mi

namespace Mi
open PySem L2

/-! ### statements -/
def isFz : Sm → Bool
  | .fz _ => true
  | _ => false
structure EndsD where
  nx : Ev → HpD → Prop
  rt : SK
  bk : Ev → HpD → Prop
  ct : Ev → HpD → Prop
  ex : Str → List (Str × D) → Ev → HpD → Prop
def asD (x : SV) (k : D → Prop) : Prop := match x with
  | .d x => k x
  | .ol l => k (.lst l)
  | .od _ => False
/-- the list of a slot, of an address: what it is, and how it is changed -/
def mutK (o : Ex) (ev : Ev) (hp : HpD) (w : SK → Prop) (k : List D → HpD → (List D → HpD → (Ev → HpD → Prop) → Prop) → Prop) : Prop :=
  match o with
  | .v i => slotK ev i fun x => match x with
    | .ol l => k l hp fun l' hp' nx => nx (ev.set i (some (.ol l'))) hp'
    | .d (.ref a) => match hp a with
      | some (.lst l) => k l hp fun l' hp' nx => hp' a = some (.lst l) ∧ nx ev (updD hp' a (.lst l'))
      | _ => False
    | _ => False
  | _ => w fun x hp => match x with
    | .d (.ref a) => match hp a with
      | some (.lst l) => k l hp fun l' hp' nx => hp' a = some (.lst l) ∧ nx ev (updD hp' a (.lst l'))
      | _ => False
    | _ => False
def olOf : SV → Option (List D)
  | .ol l => some l
  | _ => none
/-- += on it makes a new value -/
def numS : D → Prop
  | .int _ => True
  | .str _ => True
  | _ => False
def asN : SV → Prop
  | .d x => numS x
  | _ => False

/-- several values at once; a list of one's own stays one's own; nothing is raised behind it -/
def setAllS : List Nat → List SV → Ev → Option Ev
  | [], [], ev => some ev
  | i :: is, x :: xs, ev => setAllS is xs (ev.set i (some x))
  | _, _, _ => none
def eOl (x : SV) (E : EK) : EK := match x with
  | .ol _ => noE
  | _ => E
/-! ### except suites -/
section
variable (ev : Ev) (c : Str) (fs : List (Str × D))
mutual
def xv : Xp → Option D
  | .v i => match ev[i]? with
    | some (some (.d x)) => some x
    | _ => none
  | .int i => some (.int i)
  | .bl b => some (.bl b)
  | .non => some .non
  | .str s => some (.str s)
  | .tup l => (xvs l).map .tup
  | .fld _ f => fs.lookup f
  | .isx _ _ yes no => if c ∈ yes then some (.bl true) else if c ∈ no then some (.bl false) else none
  | .no a => match xv a with
    | some (.bl b) => some (.bl !b)
    | _ => none
  | .an a b => match xv a with
    | some (.bl true) => match xv b with
      | some (.bl b) => some (.bl b)
      | _ => none
    | some (.bl false) => some (.bl false)
    | _ => none
  | .oo a b => match xv a with
    | some (.bl false) => match xv b with
      | some (.bl b) => some (.bl b)
      | _ => none
    | some (.bl true) => some (.bl true)
    | _ => none
def xvs : List Xp → Option (List D)
  | [] => some []
  | a :: r => match xv a, xvs r with
    | some x, some l => some (x :: l)
    | _, _ => none
end
end
mutual
def wsu (c : Str) (fs : List (Str × D)) : Su → Ev → HpD → EndsD → Prop
  | .ret e, ev, hp, D => onSome (xv ev c fs e) fun d => D.rt (.d d) hp
  | .asg i e, ev, hp, D => onSome (xv ev c fs e) fun d => D.nx (ev.set i (some (.d d))) hp
  | .ite t a b, ev, hp, D => match xv ev c fs t with
    | some (.bl true) => wsus c fs a ev hp D
    | some (.bl false) => wsus c fs b ev hp D
    | _ => False
  | .pass, ev, hp, D => D.nx ev hp
  | .cont, ev, hp, D => D.ct ev hp
  | .brk, ev, hp, D => D.bk ev hp
def wsus (c : Str) (fs : List (Str × D)) : List Su → Ev → HpD → EndsD → Prop
  | [], ev, hp, D => D.nx ev hp
  | s :: r, ev, hp, D => wsu c fs s ev hp { D with nx := fun ev hp => wsus c fs r ev hp D }
end
def goneE (i : Option Nat) (D : EndsD) : EndsD := match i with
  | none => D
  | some i => { D with nx := fun ev hp => D.nx (ev.set i none) hp, bk := fun ev hp => D.bk (ev.set i none) hp, ct := fun ev hp => D.ct (ev.set i none) hp }
def setN (i : Option Nat) (ev : Ev) : Ev := match i with
  | none => ev
  | some i => ev.set i none
/-- no list of one's own stands in the slot of a clause's name -/
def noOlO (i : Option Nat) (ev : Ev) : Prop := match i with
  | none => True
  | some i => ev[i]?.isSome = true ∧ noOl ev [i] = true
/-- no slot holds a list of its own -/
def noOls (ev : Ev) : Bool := ev.all fun s => match s with
  | some (.ol _) => false
  | _ => true
def whs : List Hd → Str → List (Str × D) → Ev → HpD → EndsD → Prop
  | [], c, fs, ev, hp, D => D.ex c fs ev hp
  | h :: r, c, fs, ev, hp, D => if c ∈ h.yes then noOlO h.slot ev ∧ wsus c fs h.su (setN h.slot ev) hp (goneE h.slot D) else if c ∈ h.no then whs r c fs ev hp D else False
section
variable (cl : CallT) (co : ConT)
def wps : List Ex → Ev → HpD → (List SV → HpD → Prop) → EK → Prop
  | [], _, hp, Q, _ => Q [] hp
  | e :: r, ev, hp, Q, E => wr cl co e ev hp (fun x hp => wps r ev hp (fun xs hp => Q (x :: xs) hp) (eOl x E)) E
mutual
def wg : Tg → SV → Ev → HpD → (Ev → HpD → Prop) → (Ev → EK) → Prop
  | .n i, x, ev, hp, k, _ => k (ev.set i (some x)) hp
  | .t l, x, ev, hp, k, E => match x with
    | .d (.tup ds) => ds.length = l.length ∧ wgs l ds ev hp k E
    | _ => False
  | .ds o i, x, ev, hp, k, E => asD x fun d => wr cl co o ev hp (fun u hp => wr cl co i ev hp (fun y hp => dictP u y d hp fun hp => k ev hp) (E ev)) (E ev)
  | .s o i, x, ev, hp, k, E => asD x fun d => mutK o ev hp (fun Q => wr cl co o ev hp Q (E ev)) fun l hp st => wr cl co i ev hp (intK fun i hp => onSome (ixN l.length i) fun n => st (l.set n d) hp k) (E ev)
def wgs : List Tg → List D → Ev → HpD → (Ev → HpD → Prop) → (Ev → EK) → Prop
  | [], ds, ev, hp, k, _ => ds = [] ∧ k ev hp
  | t :: r, ds, ev, hp, k, E => match ds with
    | d :: ds => wg t (.d d) ev hp (fun ev hp => wgs r ds ev hp k E) E
    | [] => False
end
mutual
def ws : Sm → Ev → HpD → EndsD → Prop
  | .asg t e, ev, hp, D => wr cl co e ev hp (fun x hp => wg cl co t x ev hp D.nx (fun ev c fs hp => D.ex c fs ev hp)) (fun c fs hp => D.ex c fs ev hp)
  | .par is es, ev, hp, D => wps cl co es ev hp (fun xs hp => onSome (setAllS is xs ev) fun ev => D.nx ev hp) (fun c fs hp => D.ex c fs ev hp)
  | .aug i o e, ev, hp, D => slotK ev i fun x => asN x ∧ borK e ev hp (fun Q => wr cl co e ev hp Q (fun c fs hp => D.ex c fs ev hp)) fun y hp => opBin o x y hp fun z hp => D.nx (ev.set i (some z)) hp
  | .augS o i p e, ev, hp, D => mutK o ev hp (fun Q => wr cl co o ev hp Q (fun c fs hp => D.ex c fs ev hp)) fun l hp st => wr cl co i ev hp (intK fun i hp => onSome (ixN l.length i) fun n => onSome (l[n]?) fun x => numS x ∧
      wr cl co e ev hp (fun y hp => opBin p (.d x) y hp fun z hp => asD z fun z => st (l.set n z) hp D.nx) (fun c fs hp => D.ex c fs ev hp)) (fun c fs hp => D.ex c fs ev hp)
  | .expr e, ev, hp, D => wr cl co e ev hp (fun _ hp => D.nx ev hp) (fun c fs hp => D.ex c fs ev hp)
  | .mu m o a, ev, hp, D => mutK o ev hp (fun Q => wr cl co o ev hp Q (fun c fs hp => D.ex c fs ev hp)) fun l hp st => match m with
    | .append => wr cl co a ev hp (valK fun d hp => l.length < sizeLine ∧ st (l ++ [d]) hp D.nx) (fun c fs hp => D.ex c fs ev hp)
    | .extend => borK a ev hp (fun Q => wr cl co a ev hp Q (fun c fs hp => D.ex c fs ev hp)) fun y hp => onSome (olOf y) fun m => l.length + m.length ≤ sizeLine ∧ st (l ++ m) hp D.nx
  | .ite c a b, ev, hp, D => wr cl co c ev hp (truK fun t hp => if t = true then wss a ev hp D else wss b ev hp D) (fun c fs hp => D.ex c fs ev hp)
  | .whl c b, ev, hp, D => ∃ I : Nat → Ev → HpD → Prop, (∃ m, I m ev hp) ∧ ∀ m ev hp, I m ev hp → wr cl co c ev hp (truK fun t hp => if t = true then
      wss b ev hp { D with nx := fun ev hp => ∃ m', m' < m ∧ I m' ev hp, ct := fun ev hp => ∃ m', m' < m ∧ I m' ev hp, bk := D.nx } else D.nx ev hp) (fun c fs hp => D.ex c fs ev hp)
  | .fr t e b, ev, hp, D => wi cl co e false ev hp (fun s hp => loopL (fun x ev hp nx => wg cl co t (.d x) ev hp (fun ev hp => wss b ev hp { D with nx := nx, ct := nx, bk := D.nx }) (fun ev c fs hp => D.ex c fs ev hp))
      s.g s.l ev hp D.nx) (fun c fs hp => D.ex c fs ev hp)
  | .ret e, ev, hp, D => wr cl co e ev hp D.rt (fun c fs hp => D.ex c fs ev hp)
  | .retN, _, hp, D => D.rt (.d .non) hp
  | .retV i, ev, hp, D => slotK ev i fun x => D.rt x hp
  | .brk, ev, hp, D => D.bk ev hp
  | .cont, ev, hp, D => D.ct ev hp
  | .pass, ev, hp, D => D.nx ev hp
  | .rais c fl l, ev, hp, D => was cl co l ev hp (fun ds hp => ds.length = fl.length ∧ D.ex c (fl.zip ds).reverse ev hp) (fun c fs hp => D.ex c fs ev hp)
  | .tr b hs els, ev, hp, D => noOls ev = true ∧ wss b ev hp { D with nx := fun ev hp => wss els ev hp D, ex := fun c fs ev hp => whs hs c fs ev hp D }
  | .fz i, ev, hp, D => slotK ev i fun x => match x with
    | .ol l => D.nx (ev.set i (some (.d (.lst l)))) hp
    | _ => False
def wss : List Sm → Ev → HpD → EndsD → Prop
  | [], ev, hp, D => D.nx ev hp
  | s :: r, ev, hp, D => ws s ev hp { D with nx := fun ev hp => wss r ev hp D }
end
end

structure Fn where
  ar : Nat
  n : Nat
  body : List Sm
def startD (n : Nat) (ds : List D) : Ev := (ds.map fun d => some (.d d)) ++ List.replicate (n - ds.length) none
abbrev Pg := Str → Option Fn
def callD (P : Pg) (co : ConT) : Nat → CallT
  | 0, _, _, _, _, _ => False
  | k + 1, f, ds, hp, Q, E => onSome (P f) fun F => ds.length = F.ar ∧ wss (callD P co k) co F.body (startD F.n ds) hp
      ⟨fun _ hp => Q (.d .non) hp, Q, fun _ _ => False, fun _ _ => False, fun c fs _ hp => E c fs hp⟩

/-! ### more may be wished for -/
theorem onSome_mono {α : Type} {o : Option α} {k k' : α → Prop} (h : onSome o k) (f : ∀ a, k a → k' a) : onSome o k' := by
  cases o with
  | none => exact h
  | some a => exact f a h
theorem onSome_iff {α : Type} {o : Option α} {k : α → Prop} : onSome o k ↔ ∃ a, o = some a ∧ k a := by
  cases o with
  | none => exact ⟨fun h => h.elim, fun ⟨_, h, _⟩ => nomatch h⟩
  | some a => exact ⟨fun h => ⟨a, rfl, h⟩, fun ⟨_, h, k⟩ => by cases h; exact k⟩
theorem slotK_iff {ev : Ev} {i : Nat} {k : SV → Prop} : slotK ev i k ↔ ∃ x, ev[i]? = some (some x) ∧ k x := by
  unfold slotK
  split
  · rename_i x h
    exact ⟨fun z => ⟨x, h, z⟩, fun ⟨y, hy, z⟩ => by rw [h] at hy; cases hy; exact z⟩
  · rename_i h
    exact ⟨fun z => z.elim, fun ⟨y, hy, z⟩ => (h y hy).elim⟩
end Mi

namespace Mi
open PySem L2

abbrev SKle (Q Q' : SK) : Prop := ∀ x hp, Q x hp → Q' x hp
abbrev EKle (E E' : EK) : Prop := ∀ c fs hp, E c fs hp → E' c fs hp
theorem valK_mono {Q Q' : D → HpD → Prop} (h : ∀ x hp, Q x hp → Q' x hp) : SKle (valK Q) (valK Q') := fun x hp q => by
  cases x with
  | d x => exact h _ _ q
  | ol l => exact h _ _ q
  | od l => exact q
theorem truK_mono {Q Q' : Bool → HpD → Prop} (h : ∀ x hp, Q x hp → Q' x hp) : SKle (truK Q) (truK Q') := fun x hp q => by
  unfold truK at *
  split at q
  · exact h _ _ q
  · exact q.elim
theorem strK_mono {Q Q' : Str → HpD → Prop} (h : ∀ x hp, Q x hp → Q' x hp) : SKle (strK Q) (strK Q') := fun x hp q => by
  unfold strK at q ⊢
  split at q
  · exact h _ _ q
  · exact q.elim
theorem intK_mono {Q Q' : Int → HpD → Prop} (h : ∀ x hp, Q x hp → Q' x hp) : SKle (intK Q) (intK Q') := fun x hp q => by
  unfold intK at *
  split at q
  · exact h _ _ q
  · exact q.elim
theorem prtK_mono {e : Ex} {hp : HpD} {w w' : SK → Prop} {Q Q' : Option Int → HpD → Prop} (h : ∀ x hp, Q x hp → Q' x hp) (hw : ∀ K K', SKle K K' → w K → w' K') (q : prtK e hp w Q) : prtK e hp w' Q' := by
  unfold prtK at *
  split at q
  · exact h _ _ q
  · exact hw _ _ (intK_mono fun i hp q => h _ _ q) q
theorem srcK_mono {Q Q' : Src → HpD → Prop} (h : ∀ x hp, Q x hp → Q' x hp) : SKle (srcK Q) (srcK Q') := fun x hp q => by
  unfold srcK at *
  split at q
  · exact h _ _ q
  · exact onSome_mono q fun l z => h _ _ z
theorem borK_mono {e : Ex} {ev : Ev} {hp : HpD} {w w' : SK → Prop} {Q Q' : SK} (h : SKle Q Q') (hw : w Q → w' Q') (q : borK e ev hp w Q) : borK e ev hp w' Q' := by
  unfold borK at *
  split at q
  · rw [slotK_iff] at *
    obtain ⟨x, e, q⟩ := q
    exact ⟨x, e, h _ _ q⟩
  · exact hw q
theorem borB_mono {b : Bool} {e : Ex} {ev : Ev} {hp : HpD} {w w' : SK → Prop} {Q Q' : SK} (h : SKle Q Q') (hw : w Q → w' Q') (q : borB b e ev hp w Q) : borB b e ev hp w' Q' := by
  cases b with
  | true => exact borK_mono h hw q
  | false => exact hw q
theorem opBin_mono {o : BOp} {x y : SV} {hp : HpD} {Q Q' : SK} (h : SKle Q Q') (q : opBin o x y hp Q) : opBin o x y hp Q' := by
  cases o <;> simp only [opBin] at q ⊢
  · split at q
    · exact h _ _ q
    · exact ⟨q.1, h _ _ q.2⟩
    · exact ⟨q.1, h _ _ q.2⟩
    · exact h _ _ q
    · exact onSome_mono q fun _ q => onSome_mono q fun _ q => ⟨q.1, h _ _ q.2⟩
  all_goals (split at q <;> first | exact h _ _ q | exact ⟨q.1, h _ _ q.2⟩ | exact q.elim)
theorem opEq_mono {x y : SV} {hp : HpD} {k k' : Bool → Prop} (h : ∀ b, k b → k' b) (q : opEq x y hp k) : opEq x y hp k' := by
  unfold opEq at *
  split at q
  · exact h _ q
  · exact h _ q
  · exact onSome_mono q fun _ q => onSome_mono q fun _ q => ⟨q.1, h _ q.2⟩
theorem dictG_mono {x y : SV} {hp : HpD} {k k' : Option D → Prop} (h : ∀ b, k b → k' b) (q : dictG x y hp k) : dictG x y hp k' := by
  unfold dictG at *
  split at q
  · split at q
    · exact onSome_mono q fun _ q => h _ q
    · exact onSome_mono q fun _ q => h _ q
    · exact q
  · exact q
theorem dictP_mono {x y : SV} {v : D} {hp : HpD} {k k' : HpD → Prop} (h : ∀ b, k b → k' b) (q : dictP x y v hp k) : dictP x y v hp k' := by
  unfold dictP at *
  split at q
  · split at q
    · exact onSome_mono q fun _ q => ⟨q.1, h _ q.2⟩
    · exact onSome_mono q fun _ q => ⟨q.1, h _ q.2⟩
    · exact q
  · exact q
theorem opO1_mono {f : O1} {x : SV} {hp : HpD} {Q Q' : SK} (h : SKle Q Q') (q : opO1 f x hp Q) : opO1 f x hp Q' := by
  cases f <;> simp only [opO1] at q ⊢
  split at q
  · split at q
    · exact onSome_mono q fun _ q => h _ _ q
    · exact q
  · exact q
theorem opO2_mono {f : O2} {x y : SV} {hp : HpD} {Q Q' : SK} (h : SKle Q Q') (q : opO2 f x y hp Q) : opO2 f x y hp Q' := by
  cases f <;> simp only [opO2] at q ⊢
  · exact dictG_mono (fun o q => onSome_mono q fun _ q => h _ _ q) q
  · exact dictG_mono (fun o q => h _ _ q) q
  · split at q
    · split at q
      · exact onSome_mono q fun _ q => onSome_mono q fun _ q => h _ _ q
      · exact q
    · exact q
theorem opO3_mono {f : O3} {x y : SV} {z : D} {hp : HpD} {Q Q' : SK} (h : SKle Q Q') (q : opO3 f x y z hp Q) : opO3 f x y z hp Q' := by
  cases f <;> simp only [opO3] at q ⊢
  · exact dictG_mono (fun o q => h _ _ q) q
  · split at q
    · split at q
      · refine onSome_mono q fun i q => ?_
        split at q
        · exact h _ _ q
        · exact h _ _ q
      · refine onSome_mono q fun i q => ?_
        split at q
        · exact h _ _ q
        · exact h _ _ q
      · exact q
    · exact q
  · refine dictG_mono (fun o q => ?_) q
    split at q
    · exact h _ _ q
    · exact dictP_mono (fun hp q => h _ _ q) q
theorem opIn_mono {x y : SV} {hp : HpD} {k k' : Bool → Prop} (h : ∀ b, k b → k' b) (q : opIn x y hp k) : opIn x y hp k' := by
  unfold opIn at *
  split at q
  · rename_i c
    rw [if_pos c]
    exact dictG_mono (fun o q => h _ q) q
  · rename_i c
    rw [if_neg c]
    split at q
    · exact ⟨q.1, h _ q.2⟩
    · exact onSome_mono q fun _ q => onSome_mono q fun _ q => ⟨q.1, h _ q.2⟩
theorem opLt_mono {x y : SV} {k k' : Bool → Prop} (h : ∀ b, k b → k' b) (q : opLt x y k) : opLt x y k' := by
  unfold opLt at *
  split at q <;> first | exact h _ q | exact q.elim
theorem opLe_mono {x y : SV} {k k' : Bool → Prop} (h : ∀ b, k b → k' b) (q : opLe x y k) : opLe x y k' := by
  unfold opLe at *
  split at q <;> first | exact h _ q | exact q.elim
theorem opCmp_mono {o : COp} {x y : SV} {hp : HpD} {k k' : Bool → Prop} (h : ∀ b, k b → k' b) (q : opCmp o x y hp k) : opCmp o x y hp k' := by
  cases o <;> simp only [opCmp] at q ⊢
  · exact opEq_mono h q
  · exact opEq_mono (fun b => h _) q
  · exact opLt_mono h q
  · exact opLe_mono h q
  · exact opLt_mono h q
  · exact opLe_mono h q
  · split at q
    · exact h _ q
    · split at q <;> exact h _ q
  · split at q
    · exact h _ q
    · split at q <;> exact h _ q
  · exact opIn_mono h q
  · exact opIn_mono (fun b => h _) q
theorem opIx_mono {x : SV} {i : Int} {hp : HpD} {Q Q' : SK} (h : SKle Q Q') (q : opIx x i hp Q) : opIx x i hp Q' := by
  unfold opIx at *
  split at q
  · exact ⟨q.1, onSome_mono q.2 fun _ q => h _ _ q⟩
  · exact onSome_mono q fun _ q => onSome_mono q fun _ q => h _ _ q
theorem opSl_mono {x : SV} {i j : Option Int} {hp : HpD} {Q Q' : SK} (h : SKle Q Q') (q : opSl x i j hp Q) : opSl x i j hp Q' := by
  unfold opSl at *
  split at q
  · exact ⟨q.1, h _ _ q.2⟩
  · exact h _ _ q
  · exact onSome_mono q fun _ q => h _ _ q
theorem opBack_mono {x : SV} {hp : HpD} {Q Q' : SK} (h : SKle Q Q') (q : opBack x hp Q) : opBack x hp Q' := by
  unfold opBack at *
  split at q
  · exact h _ _ q
  · exact ⟨q.1, h _ _ q.2⟩
  · exact onSome_mono q fun _ q => h _ _ q
theorem opB1_mono {f : B1} {x : SV} {hp : HpD} {Q Q' : SK} (h : SKle Q Q') (q : opB1 f x hp Q) : opB1 f x hp Q' := by
  cases f <;> simp only [opB1] at q ⊢
  · split at q
    · exact ⟨q.1, h _ _ q.2⟩
    · exact onSome_mono q fun _ q => h _ _ q
  · exact onSome_mono q fun _ q => ⟨q.1, q.2.1, q.2.2.1, h _ _ q.2.2.2⟩
  · exact onSome_mono q fun _ q => h _ _ q
  · exact onSome_mono q fun _ q => h _ _ q
  · exact onSome_mono q fun _ q => h _ _ q
  · exact onSome_mono q fun l q => by cases l with
      | nil => exact q
      | cons => exact h _ _ q
  · exact onSome_mono q fun l q => by cases l with
      | nil => exact q
      | cons => exact h _ _ q
  · exact onSome_mono q fun _ q => h _ _ q
  · exact onSome_mono q fun _ q => h _ _ q
  · split at q
    · exact ⟨q.1, h _ _ q.2⟩
    · exact q
  · exact onSome_mono q fun _ q => onSome_mono q fun _ q => ⟨q.1, h _ _ q.2⟩
  · split at q
    · exact ⟨q.1, h _ _ q.2⟩
    · exact h _ _ q
    · exact q
theorem opB2_mono {f : B2} {x y : SV} {hp : HpD} {Q Q' : SK} (h : SKle Q Q') (q : opB2 f x y hp Q) : opB2 f x y hp Q' := by
  unfold opB2 at *
  split at q
  · cases f <;> exact h _ _ q
  · exact q
theorem opNeg_mono {x : SV} {hp : HpD} {Q Q' : SK} (h : SKle Q Q') (q : opNeg x hp Q) : opNeg x hp Q' := by
  unfold opNeg at *
  split at q <;> first | exact h _ _ q | exact q.elim
theorem opM1_mono {f : M1} {x y : SV} {hp : HpD} {Q Q' : SK} (h : SKle Q Q') (q : opM1 f x y hp Q) : opM1 f x y hp Q' := by
  cases f <;> simp only [opM1] at q ⊢
  · split at q
    · obtain ⟨i, r, e, q⟩ := q
      exact ⟨i, r, e, h _ _ q⟩
    · exact q
theorem opM0_mono {f : M0} {x : SV} {hp : HpD} {Q Q' : SK} (h : SKle Q Q') (q : opM0 f x hp Q) : opM0 f x hp Q' := by
  cases f <;> simp only [opM0] at q ⊢
  · split at q
    · exact ⟨q.1, h _ _ q.2⟩
    · exact q
theorem compL_mono {step step' : D → HpD → (Option D → HpD → Prop) → Prop} (hs : ∀ x hp k k', (∀ o hp, k o hp → k' o hp) → step x hp k → step' x hp k') {g : HpD → Prop} : ∀ (l acc : List D) (hp : HpD) (k k' : List D → HpD → Prop), (∀ a hp, k a hp → k' a hp) → compL step g l acc hp k → compL step' g l acc hp k'
  | [], acc, hp, k, k', h, q => ⟨q.1, h _ _ q.2⟩
  | x :: r, acc, hp, k, k', h, q => ⟨q.1, hs _ _ _ _ (fun o hp q => by
      cases o with
      | none => exact compL_mono hs r acc hp k k' h q
      | some y => exact ⟨q.1, compL_mono hs r _ hp k k' h q.2⟩) q.2⟩
theorem loopL_mono {step step' : D → Ev → HpD → (Ev → HpD → Prop) → Prop} (hs : ∀ x ev hp k k', (∀ ev hp, k ev hp → k' ev hp) → step x ev hp k → step' x ev hp k') {g : HpD → Prop} : ∀ (l : List D) (ev : Ev) (hp : HpD) (k k' : Ev → HpD → Prop), (∀ a hp, k a hp → k' a hp) → loopL step g l ev hp k → loopL step' g l ev hp k'
  | [], ev, hp, k, k', h, q => ⟨q.1, h _ _ q.2⟩
  | x :: r, ev, hp, k, k', h, q => ⟨q.1, hs _ _ _ _ _ (fun ev hp q => loopL_mono hs r ev hp k k' h q) q.2⟩

def CallMono (cl : CallT) : Prop := ∀ f ds hp Q Q' E E', SKle Q Q' → EKle E E' → cl f ds hp Q E → cl f ds hp Q' E'
section
variable {cl : CallT} {co : ConT} (hc : CallMono cl)
include hc
mutual
theorem wr_mono : ∀ (e : Ex) (ev : Ev) (hp : HpD) (Q Q' : SK) (E E' : EK), SKle Q Q' → EKle E E' → wr cl co e ev hp Q E → wr cl co e ev hp Q' E'
  | .v i, ev, hp, Q, Q', E, E', h, hE, q => by
    simp only [wr, slotK_iff] at q ⊢
    obtain ⟨x, e, q⟩ := q
    refine ⟨x, e, ?_⟩
    split at q
    · exact h _ _ q
    · exact q.elim
  | .int i, ev, hp, Q, Q', E, E', h, hE, q => by simp only [wr] at q ⊢; exact h _ _ q
  | .bl b, ev, hp, Q, Q', E, E', h, hE, q => by simp only [wr] at q ⊢; exact h _ _ q
  | .non, ev, hp, Q, Q', E, E', h, hE, q => by simp only [wr] at q ⊢; exact h _ _ q
  | .str s, ev, hp, Q, Q', E, E', h, hE, q => by simp only [wr] at q ⊢; exact h _ _ q
  | .g x, ev, hp, Q, Q', E, E', h, hE, q => by simp only [wr] at q ⊢; exact onSome_mono q fun _ q => h _ _ q
  | .tup l, ev, hp, Q, Q', E, E', h, hE, q => by simp only [wr] at q ⊢; exact was_mono l ev hp _ _ E E' (fun ds hp q => h _ _ q) hE q
  | .lst l, ev, hp, Q, Q', E, E', h, hE, q => by simp only [wr] at q ⊢; exact was_mono l ev hp _ _ E E' (fun ds hp q => h _ _ q) hE q
  | .bin o a b, ev, hp, Q, Q', E, E', h, hE, q => by
    simp only [wr] at q ⊢
    have hb : SKle (fun x hp => borK b ev hp (fun Q => wr cl co b ev hp Q E) fun y hp => opBin o x y hp Q) (fun x hp => borK b ev hp (fun Q => wr cl co b ev hp Q E') fun y hp => opBin o x y hp Q') := fun x hp q =>
      borK_mono (fun y hp q => opBin_mono h q) (fun q => wr_mono b ev hp _ _ E E' (fun y hp q => opBin_mono h q) hE q) q
    exact borK_mono hb (fun q => wr_mono a ev hp _ _ E E' hb hE q) q
  | .neg a, ev, hp, Q, Q', E, E', h, hE, q => by simp only [wr] at q ⊢; exact wr_mono a ev hp _ _ E E' (fun x hp q => opNeg_mono h q) hE q
  | .no a, ev, hp, Q, Q', E, E', h, hE, q => by simp only [wr] at q ⊢; exact wr_mono a ev hp _ _ E E' (truK_mono fun b hp q => h _ _ q) hE q
  | .an a b, ev, hp, Q, Q', E, E', h, hE, q => by
    simp only [wr] at q ⊢
    refine wr_mono a ev hp _ _ E E' (truK_mono fun c hp q => ?_) hE q
    split at q
    · rename_i hc; rw [if_pos hc]; exact wr_mono b ev hp _ _ E E' h hE q
    · rename_i hc; rw [if_neg hc]; exact h _ _ q
  | .oo a b, ev, hp, Q, Q', E, E', h, hE, q => by
    simp only [wr] at q ⊢
    refine wr_mono a ev hp _ _ E E' (truK_mono fun c hp q => ?_) hE q
    split at q
    · rename_i hc; rw [if_pos hc]; exact h _ _ q
    · rename_i hc; rw [if_neg hc]; exact wr_mono b ev hp _ _ E E' h hE q
  | .ite c a b, ev, hp, Q, Q', E, E', h, hE, q => by
    simp only [wr] at q ⊢
    refine wr_mono c ev hp _ _ E E' (truK_mono fun c hp q => ?_) hE q
    split at q
    · rename_i hc; rw [if_pos hc]; exact wr_mono a ev hp _ _ E E' h hE q
    · rename_i hc; rw [if_neg hc]; exact wr_mono b ev hp _ _ E E' h hE q
  | .cmp o a b, ev, hp, Q, Q', E, E', h, hE, q => by
    simp only [wr] at q ⊢
    have hk : ∀ x y hp, (opCmp o x y hp fun c => Q (.d (.bl c)) hp) → opCmp o x y hp fun c => Q' (.d (.bl c)) hp := fun x y hp q => opCmp_mono (fun c q => h _ _ q) q
    have hb : SKle (fun x hp => borK b ev hp (fun Q => wr cl co b ev hp Q E) fun y hp => opCmp o x y hp fun c => Q (.d (.bl c)) hp) (fun x hp => borK b ev hp (fun Q => wr cl co b ev hp Q E') fun y hp => opCmp o x y hp fun c => Q' (.d (.bl c)) hp) := fun x hp q =>
      borK_mono (fun y hp q => hk _ _ _ q) (fun q => wr_mono b ev hp _ _ E E' (fun y hp q => hk _ _ _ q) hE q) q
    exact borK_mono hb (fun q => wr_mono a ev hp _ _ E E' hb hE q) q
  | .cmp2 o p a b c, ev, hp, Q, Q', E, E', h, hE, q => by
    simp only [wr] at q ⊢
    have hk : ∀ y z hp, (opCmp p y z hp fun c => Q (.d (.bl c)) hp) → opCmp p y z hp fun c => Q' (.d (.bl c)) hp := fun x y hp q => opCmp_mono (fun c q => h _ _ q) q
    have hcc : ∀ x y hp, (opCmp o x y hp fun t => if t = true then borK c ev hp (fun Q => wr cl co c ev hp Q E) fun z hp => opCmp p y z hp fun c => Q (.d (.bl c)) hp else Q (.d (.bl false)) hp) →
        (opCmp o x y hp fun t => if t = true then borK c ev hp (fun Q => wr cl co c ev hp Q E') fun z hp => opCmp p y z hp fun c => Q' (.d (.bl c)) hp else Q' (.d (.bl false)) hp) := fun x y hp q => opCmp_mono (fun t q => by
      split at q
      · rename_i ht; rw [if_pos ht]; exact borK_mono (fun z hp q => hk _ _ _ q) (fun q => wr_mono c ev hp _ _ E E' (fun z hp q => hk _ _ _ q) hE q) q
      · rename_i ht; rw [if_neg ht]; exact h _ _ q) q
    have hb : SKle (fun x hp => borK b ev hp (fun Q => wr cl co b ev hp Q E) fun y hp => opCmp o x y hp fun t => if t = true then borK c ev hp (fun Q => wr cl co c ev hp Q E) fun z hp => opCmp p y z hp fun c => Q (.d (.bl c)) hp else Q (.d (.bl false)) hp)
        (fun x hp => borK b ev hp (fun Q => wr cl co b ev hp Q E') fun y hp => opCmp o x y hp fun t => if t = true then borK c ev hp (fun Q => wr cl co c ev hp Q E') fun z hp => opCmp p y z hp fun c => Q' (.d (.bl c)) hp else Q' (.d (.bl false)) hp) := fun x hp q =>
      borK_mono (fun y hp q => hcc _ _ _ q) (fun q => wr_mono b ev hp _ _ E E' (fun y hp q => hcc _ _ _ q) hE q) q
    exact borK_mono hb (fun q => wr_mono a ev hp _ _ E E' hb hE q) q
  | .ix a i, ev, hp, Q, Q', E, E', h, hE, q => by
    simp only [wr] at q ⊢
    have hb : SKle (fun x hp => wr cl co i ev hp (intK fun i hp => opIx x i hp Q) E) (fun x hp => wr cl co i ev hp (intK fun i hp => opIx x i hp Q') E') := fun x hp q =>
      wr_mono i ev hp _ _ E E' (intK_mono fun i hp q => opIx_mono h q) hE q
    exact borK_mono hb (fun q => wr_mono a ev hp _ _ E E' hb hE q) q
  | .sl a lo hi, ev, hp, Q, Q', E, E', h, hE, q => by
    simp only [wr] at q ⊢
    have hb : SKle (fun x hp => prtK lo hp (fun Q => wr cl co lo ev hp Q E) fun l hp => prtK hi hp (fun Q => wr cl co hi ev hp Q E) fun u hp => opSl x l u hp Q) (fun x hp => prtK lo hp (fun Q => wr cl co lo ev hp Q E') fun l hp => prtK hi hp (fun Q => wr cl co hi ev hp Q E') fun u hp => opSl x l u hp Q') := fun x hp q =>
      prtK_mono (fun l hp q => prtK_mono (fun u hp q => opSl_mono h q) (fun K K' hK q => wr_mono hi ev hp _ _ E E' hK hE q) q) (fun K K' hK q => wr_mono lo ev hp _ _ E E' hK hE q) q
    exact borK_mono hb (fun q => wr_mono a ev hp _ _ E E' hb hE q) q
  | .back a, ev, hp, Q, Q', E, E', h, hE, q => by
    simp only [wr] at q ⊢
    exact borK_mono (fun x hp q => opBack_mono h q) (fun q => wr_mono a ev hp _ _ E E' (fun x hp q => opBack_mono h q) hE q) q
  | .call f l, ev, hp, Q, Q', E, E', h, hE, q => by simp only [wr] at q ⊢; exact was_mono l ev hp _ _ E E' (fun ds hp q => hc _ _ _ _ _ _ _ h hE q) hE q
  | .calld f l dv, ev, hp, Q, Q', E, E', h, hE, q => by simp only [wr] at q ⊢; exact was_mono l ev hp _ _ E E' (fun ds hp q => hc _ _ _ _ _ _ _ h hE q) hE q
  | .b1 f a, ev, hp, Q, Q', E, E', h, hE, q => by
    simp only [wr] at q ⊢
    exact borK_mono (fun x hp q => opB1_mono h q) (fun q => wr_mono a ev hp _ _ E E' (fun x hp q => opB1_mono h q) hE q) q
  | .b2 f a b, ev, hp, Q, Q', E, E', h, hE, q => by
    simp only [wr] at q ⊢
    exact wr_mono a ev hp _ _ E E' (fun x hp q => wr_mono b ev hp _ _ E E' (fun y hp q => opB2_mono h q) hE q) hE q
  | .isi a t, ev, hp, Q, Q', E, E', h, hE, q => by
    simp only [wr] at q ⊢
    exact borK_mono (fun x hp q => onSome_mono q fun _ q => h _ _ q) (fun q => wr_mono a ev hp _ _ E E' (fun x hp q => onSome_mono q fun _ q => h _ _ q) hE q) q
  | .m1 m o a, ev, hp, Q, Q', E, E', h, hE, q => by
    simp only [wr] at q ⊢
    have hb : SKle (fun x hp => recM m x ∧ wr cl co a ev hp (fun y hp => opM1 m x y hp Q) E) (fun x hp => recM m x ∧ wr cl co a ev hp (fun y hp => opM1 m x y hp Q') E') := fun x hp q =>
      ⟨q.1, wr_mono a ev hp _ _ E E' (fun y hp q => opM1_mono h q) hE q.2⟩
    exact borK_mono hb (fun q => wr_mono o ev hp _ _ E E' hb hE q) q
  | .m0 m o, ev, hp, Q, Q', E, E', h, hE, q => by
    simp only [wr] at q ⊢
    exact borK_mono (fun x hp q => opM0_mono h q) (fun q => wr_mono o ev hp _ _ E E' (fun x hp q => opM0_mono h q) hE q) q
  | .comp e tg it c own, ev, hp, Q, Q', E, E', h, hE, q => by
    simp only [wr] at q ⊢
    refine ⟨q.1, wi_mono it true ev hp _ _ E E' ?_ hE q.2⟩
    intro s hp q
    refine compL_mono ?_ _ _ _ _ _ (fun acc hp q => h _ _ q) q
    intro x hp k k' hk q
    refine onSome_mono q fun ev' q => ?_
    refine wr_mono c ev' hp _ _ _ _ (truK_mono fun b hp q => ?_) (fun _ _ _ z => z) q
    split at q
    · rename_i hb; rw [if_pos hb]; exact wr_mono e ev' hp _ _ _ _ (valK_mono fun y hp q => hk _ _ q) (fun _ _ _ z => z) q
    · rename_i hb; rw [if_neg hb]; exact hk _ _ q
  | .vl a, ev, hp, Q, Q', E, E', h, hE, q => by
    simp only [wr] at q ⊢
    exact wr_mono a ev hp _ _ E E' (valK_mono fun d hp q => h _ _ q) hE q
  | .rf a, ev, hp, Q, Q', E, E', h, hE, q => by
    simp only [wr] at q ⊢
    refine wr_mono a ev hp _ _ E E' (fun x hp q => ?_) hE q
    split at q
    · exact fun p hpp => h _ _ (q p hpp)
    · exact q.elim
  | .o1 f a, ev, hp, Q, Q', E, E', h, hE, q => by
    simp only [wr] at q ⊢
    exact wr_mono a ev hp _ _ E E' (fun x hp q => opO1_mono h q) hE q
  | .o2 f a b, ev, hp, Q, Q', E, E', h, hE, q => by
    simp only [wr] at q ⊢
    exact wr_mono a ev hp _ _ E E' (fun x hp q => ⟨q.1, wr_mono b ev hp _ _ E E' (fun y hp q => opO2_mono h q) hE q.2⟩) hE q
  | .o3 f a b c, ev, hp, Q, Q', E, E', h, hE, q => by
    simp only [wr] at q ⊢
    exact wr_mono a ev hp _ _ E E' (fun x hp q => ⟨q.1, wr_mono b ev hp _ _ E E' (fun y hp q => wr_mono c ev hp _ _ E E' (valK_mono fun z hp q => opO3_mono h q) hE q) hE q.2⟩) hE q
  | .dct ks vs, ev, hp, Q, Q', E, E', h, hE, q => by
    simp only [wr] at q ⊢
    exact was_mono vs ev hp _ _ _ _ (fun ds hp q p hpp => h _ _ (q p hpp)) (fun _ _ _ z => z) q
  | .dnew t, ev, hp, Q, Q', E, E', h, hE, q => by
    simp only [wr] at q ⊢
    exact fun p hpp => h _ _ (q p hpp)
  | .tin ng t fs a, ev, hp, Q, Q', E, E', h, hE, q => by
    simp only [wr] at q ⊢
    exact wr_mono a ev hp _ _ E E' (strK_mono fun s hp q => h _ _ q) hE q
  | .tix t fs a, ev, hp, Q, Q', E, E', h, hE, q => by
    simp only [wr] at q ⊢
    exact wr_mono a ev hp _ _ E E' (strK_mono fun s hp q => onSome_mono q fun f q => h _ _ q) hE q
  | .callv i fl l, ev, hp, Q, Q', E, E', h, hE, q => by
    simp only [wr] at q ⊢
    obtain ⟨f, e1, e2, q⟩ := q
    exact ⟨f, e1, e2, was_mono l ev hp _ _ E E' (fun ds hp q => hc _ _ _ _ _ _ _ h hE q) hE q⟩
theorem was_mono : ∀ (l : List Ex) (ev : Ev) (hp : HpD) (Q Q' : List D → HpD → Prop) (E E' : EK), (∀ ds hp, Q ds hp → Q' ds hp) → EKle E E' → was cl co l ev hp Q E → was cl co l ev hp Q' E'
  | [], ev, hp, Q, Q', E, E', h, hE, q => by simp only [was] at q ⊢; exact h _ _ q
  | e :: r, ev, hp, Q, Q', E, E', h, hE, q => by
    simp only [was] at q ⊢
    exact wr_mono e ev hp _ _ E E' (valK_mono fun x hp q => was_mono r ev hp _ _ E E' (fun xs hp q => h _ _ q) hE q) hE q
theorem wi_mono : ∀ (e : It) (w : Bool) (ev : Ev) (hp : HpD) (Q Q' : Src → HpD → Prop) (E E' : EK), (∀ s hp, Q s hp → Q' s hp) → EKle E E' → wi cl co e w ev hp Q E → wi cl co e w ev hp Q' E'
  | .rg1 a, w, ev, hp, Q, Q', E, E', h, hE, q => by simp only [wi] at q ⊢; exact wr_mono a ev hp _ _ E E' (intK_mono fun n hp q => ⟨q.1, h _ _ q.2⟩) hE q
  | .rg2 a b, w, ev, hp, Q, Q', E, E', h, hE, q => by simp only [wi] at q ⊢; exact wr_mono a ev hp _ _ E E' (intK_mono fun i hp q => wr_mono b ev hp _ _ E E' (intK_mono fun n hp q => ⟨q.1, h _ _ q.2⟩) hE q) hE q
  | .rg3 a b, w, ev, hp, Q, Q', E, E', h, hE, q => by simp only [wi] at q ⊢; exact wr_mono a ev hp _ _ E E' (intK_mono fun i hp q => wr_mono b ev hp _ _ E E' (intK_mono fun n hp q => ⟨q.1, h _ _ q.2⟩) hE q) hE q
  | .en a, w, ev, hp, Q, Q', E, E', h, hE, q => by
    simp only [wi] at q ⊢
    exact borB_mono (fun x hp q => onSome_mono q fun l q => h _ _ q) (fun q => wr_mono a ev hp _ _ E E' (fun x hp q => onSome_mono q fun l q => h _ _ q) hE q) q
  | .zp a b, w, ev, hp, Q, Q', E, E', h, hE, q => by
    simp only [wi] at q ⊢
    have hk : ∀ x y hp, (zipK x y hp ∧ onSome (seqD hp x) fun l => onSome (seqD hp y) fun m => Q ⟨zipD l m, fun hp => grd l x hp ∧ grd m y hp⟩ hp) → zipK x y hp ∧ onSome (seqD hp x) fun l => onSome (seqD hp y) fun m => Q' ⟨zipD l m, fun hp => grd l x hp ∧ grd m y hp⟩ hp :=
      fun x y hp q => ⟨q.1, onSome_mono q.2 fun _ q => onSome_mono q fun _ q => h _ _ q⟩
    have hb : SKle (fun x hp => borB w b ev hp (fun Q => wr cl co b ev hp Q E) fun y hp => zipK x y hp ∧ onSome (seqD hp x) fun l => onSome (seqD hp y) fun m => Q ⟨zipD l m, fun hp => grd l x hp ∧ grd m y hp⟩ hp)
        (fun x hp => borB w b ev hp (fun Q => wr cl co b ev hp Q E') fun y hp => zipK x y hp ∧ onSome (seqD hp x) fun l => onSome (seqD hp y) fun m => Q' ⟨zipD l m, fun hp => grd l x hp ∧ grd m y hp⟩ hp) := fun x hp q =>
      borB_mono (fun y hp q => hk _ _ _ q) (fun q => wr_mono b ev hp _ _ E E' (fun y hp q => hk _ _ _ q) hE q) q
    exact borB_mono hb (fun q => wr_mono a ev hp _ _ E E' hb hE q) q
  | .e a, w, ev, hp, Q, Q', E, E', h, hE, q => by simp only [wi] at q ⊢; exact borB_mono (srcK_mono h) (fun q => wr_mono a ev hp _ _ E E' (srcK_mono h) hE q) q
end
end
end Mi

namespace Mi
open PySem L2
abbrev NxLe (n n' : Ev → HpD → Prop) : Prop := ∀ ev hp, n ev hp → n' ev hp
abbrev StMono (st : List D → HpD → (Ev → HpD → Prop) → Prop) : Prop := ∀ l hp n n', NxLe n n' → st l hp n → st l hp n'
theorem asD_mono {x : SV} {k k' : D → Prop} (h : ∀ d, k d → k' d) (q : asD x k) : asD x k' := by
  cases x with
  | d x => exact h _ q
  | ol l => exact h _ q
  | od l => exact q
theorem mutK_mono {o : Ex} {ev : Ev} {hp : HpD} {w w' : SK → Prop} {k k' : List D → HpD → (List D → HpD → (Ev → HpD → Prop) → Prop) → Prop}
    (hk : ∀ l hp st, StMono st → k l hp st → k' l hp st) (hw : ∀ Q Q', SKle Q Q' → w Q → w' Q') (q : mutK o ev hp w k) : mutK o ev hp w' k' := by
  have hA : ∀ (a : Addr), StMono fun l' hp' nx => ∃ l, hp' a = some (.lst l) ∧ nx ev (updD hp' a (.lst l')) := fun a l hp n n' h ⟨x, e, q⟩ => ⟨x, e, h _ _ q⟩
  unfold mutK at *
  split at q
  · rw [slotK_iff] at *
    obtain ⟨x, e, q⟩ := q
    refine ⟨x, e, ?_⟩
    split at q
    · exact hk _ _ _ (fun l hp n n' h q => h _ _ q) q
    · split at q
      · exact hk _ _ _ (fun l hp n n' h q => ⟨q.1, h _ _ q.2⟩) q
      · exact q.elim
    · exact q.elim
  · refine hw _ _ (fun x hp q => ?_) q
    split at q
    · split at q
      · exact hk _ _ _ (fun l hp n n' h q => ⟨q.1, h _ _ q.2⟩) q
      · exact q.elim
    · exact q.elim

structure EndsLe (D D' : EndsD) : Prop where
  nx : NxLe D.nx D'.nx
  rt : SKle D.rt D'.rt
  bk : NxLe D.bk D'.bk
  ct : NxLe D.ct D'.ct
  ex : ∀ c fs ev hp, D.ex c fs ev hp → D'.ex c fs ev hp
mutual
theorem wsu_mono {c : Str} {fs : List (Str × D)} : ∀ (s : Su) (ev : Ev) (hp : HpD) (D D' : EndsD), EndsLe D D' → wsu c fs s ev hp D → wsu c fs s ev hp D'
  | .ret e, ev, hp, D, D', h, q => by simp only [wsu] at q ⊢; exact onSome_mono q fun d q => h.rt _ _ q
  | .asg i e, ev, hp, D, D', h, q => by simp only [wsu] at q ⊢; exact onSome_mono q fun d q => h.nx _ _ q
  | .ite t a b, ev, hp, D, D', h, q => by
    simp only [wsu] at q ⊢
    split at q
    · exact wsus_mono a ev hp D D' h q
    · exact wsus_mono b ev hp D D' h q
    · exact q.elim
  | .pass, ev, hp, D, D', h, q => by simp only [wsu] at q ⊢; exact h.nx _ _ q
  | .cont, ev, hp, D, D', h, q => by simp only [wsu] at q ⊢; exact h.ct _ _ q
  | .brk, ev, hp, D, D', h, q => by simp only [wsu] at q ⊢; exact h.bk _ _ q
theorem wsus_mono {c : Str} {fs : List (Str × D)} : ∀ (l : List Su) (ev : Ev) (hp : HpD) (D D' : EndsD), EndsLe D D' → wsus c fs l ev hp D → wsus c fs l ev hp D'
  | [], ev, hp, D, D', h, q => by simp only [wsus] at q ⊢; exact h.nx _ _ q
  | s :: r, ev, hp, D, D', h, q => by
    simp only [wsus] at q ⊢
    refine wsu_mono s ev hp _ _ ?_ q
    exact ⟨fun ev hp q => wsus_mono r ev hp D D' h q, h.rt, h.bk, h.ct, h.ex⟩
end
theorem goneE_le {i : Option Nat} {D D' : EndsD} (h : EndsLe D D') : EndsLe (goneE i D) (goneE i D') := by
  cases i with
  | none => exact h
  | some i => exact ⟨fun _ _ q => h.nx _ _ q, h.rt, fun _ _ q => h.bk _ _ q, fun _ _ q => h.ct _ _ q, h.ex⟩
theorem whs_mono : ∀ (l : List Hd) {c : Str} {fs : List (Str × D)} {ev : Ev} {hp : HpD} {D D' : EndsD}, EndsLe D D' → whs l c fs ev hp D → whs l c fs ev hp D'
  | [], c, fs, ev, hp, D, D', h, q => h.ex _ _ _ _ q
  | a :: r, c, fs, ev, hp, D, D', h, q => by
    simp only [whs] at q ⊢
    split at q
    · rename_i e; rw [if_pos e]; exact ⟨q.1, wsus_mono _ _ _ _ _ (goneE_le h) q.2⟩
    · rename_i e
      rw [if_neg e]
      split at q
      · rename_i e2; rw [if_pos e2]; exact whs_mono r h q
      · exact q.elim
section
variable {cl : CallT} {co : ConT} (hc : CallMono cl)
include hc
mutual
theorem wg_mono : ∀ (t : Tg) (x : SV) (ev : Ev) (hp : HpD) (k k' : Ev → HpD → Prop) (E E' : Ev → EK), NxLe k k' → (∀ ev, EKle (E ev) (E' ev)) → wg cl co t x ev hp k E → wg cl co t x ev hp k' E'
  | .n i, x, ev, hp, k, k', E, E', h, hE, q => by simp only [wg] at q ⊢; exact h _ _ q
  | .t l, x, ev, hp, k, k', E, E', h, hE, q => by
    simp only [wg] at q ⊢
    split at q
    · exact ⟨q.1, wgs_mono l _ ev hp k k' E E' h hE q.2⟩
    · exact q.elim
  | .s o i, x, ev, hp, k, k', E, E', h, hE, q => by
    simp only [wg] at q ⊢
    refine asD_mono (fun d q => mutK_mono (fun l hp st sm q => wr_mono hc i ev hp _ _ (E ev) (E' ev) (intK_mono fun i hp q => onSome_mono q fun n q => sm _ _ _ _ h q) (hE ev) q) (fun Q Q' h q => wr_mono hc o ev hp _ _ (E ev) (E' ev) h (hE ev) q) q) q
  | .ds o i, x, ev, hp, k, k', E, E', h, hE, q => by
    simp only [wg] at q ⊢
    exact asD_mono (fun d q => wr_mono hc o ev hp _ _ (E ev) (E' ev) (fun u hp q => wr_mono hc i ev hp _ _ (E ev) (E' ev) (fun y hp q => dictP_mono (fun hp q => h _ _ q) q) (hE ev) q) (hE ev) q) q
theorem wgs_mono : ∀ (l : List Tg) (ds : List D) (ev : Ev) (hp : HpD) (k k' : Ev → HpD → Prop) (E E' : Ev → EK), NxLe k k' → (∀ ev, EKle (E ev) (E' ev)) → wgs cl co l ds ev hp k E → wgs cl co l ds ev hp k' E'
  | [], ds, ev, hp, k, k', E, E', h, hE, q => by simp only [wgs] at q ⊢; exact ⟨q.1, h _ _ q.2⟩
  | t :: r, ds, ev, hp, k, k', E, E', h, hE, q => by
    simp only [wgs] at q ⊢
    split at q
    · exact wg_mono t _ ev hp _ _ E E' (fun ev hp q => wgs_mono r _ ev hp k k' E E' h hE q) hE q
    · exact q.elim
end
theorem eOl_mono {x : SV} {E E' : EK} (h : EKle E E') : EKle (eOl x E) (eOl x E') := by
  cases x with
  | ol l => exact fun _ _ _ q => q
  | d x => exact h
  | od l => exact h
theorem wps_mono : ∀ (l : List Ex) (ev : Ev) (hp : HpD) (Q Q' : List SV → HpD → Prop) (E E' : EK), (∀ xs hp, Q xs hp → Q' xs hp) → EKle E E' → wps cl co l ev hp Q E → wps cl co l ev hp Q' E'
  | [], ev, hp, Q, Q', E, E', h, hE, q => h _ _ q
  | e :: r, ev, hp, Q, Q', E, E', h, hE, q => by
    simp only [wps] at q ⊢
    exact wr_mono hc e ev hp _ _ _ _ (fun x hp q => wps_mono r ev hp _ _ _ _ (fun xs hp q => h _ _ q) (eOl_mono hc hE) q) hE q
mutual
theorem ws_mono : ∀ (s : Sm) (ev : Ev) (hp : HpD) (D D' : EndsD), EndsLe D D' → ws cl co s ev hp D → ws cl co s ev hp D'
  | .asg t e, ev, hp, D, D', h, q => by
    simp only [ws] at q ⊢
    exact wr_mono hc e ev hp _ _ _ _ (fun x hp q => wg_mono hc t x ev hp _ _ _ _ h.nx (fun ev c fs hp q => h.ex _ _ _ _ q) q) (fun c fs hp q => h.ex _ _ _ _ q) q
  | .par is es, ev, hp, D, D', h, q => by
    simp only [ws] at q ⊢
    exact wps_mono hc es ev hp _ _ _ _ (fun x hp q => onSome_mono q fun ev q => h.nx _ _ q) (fun c fs hp q => h.ex _ _ _ _ q) q
  | .aug i o e, ev, hp, D, D', h, q => by
    simp only [ws, slotK_iff] at q ⊢
    obtain ⟨x, ex, q⟩ := q
    refine ⟨x, ex, q.1, ?_⟩
    have hk : SKle (fun y hp => opBin o x y hp fun z hp => D.nx (ev.set i (some z)) hp) (fun y hp => opBin o x y hp fun z hp => D'.nx (ev.set i (some z)) hp) := fun y hp q => opBin_mono (fun z hp q => h.nx _ _ q) q
    exact borK_mono hk (fun q => wr_mono hc e ev hp _ _ _ _ hk (fun c fs hp q => h.ex _ _ _ _ q) q) q.2
  | .augS o i p e, ev, hp, D, D', h, q => by
    simp only [ws] at q ⊢
    refine mutK_mono (fun l hp st sm q => wr_mono hc i ev hp _ _ _ _ (intK_mono fun i hp q => onSome_mono q fun n q => onSome_mono q fun x q => ⟨q.1, ?_⟩) (fun c fs hp q => h.ex _ _ _ _ q) q) (fun Q Q' hQ q => wr_mono hc o ev hp _ _ _ _ hQ (fun c fs hp q => h.ex _ _ _ _ q) q) q
    exact wr_mono hc e ev hp _ _ _ _ (fun y hp q => opBin_mono (fun z hp q => asD_mono (fun d q => sm _ _ _ _ h.nx q) q) q) (fun c fs hp q => h.ex _ _ _ _ q) q.2
  | .expr e, ev, hp, D, D', h, q => by
    simp only [ws] at q ⊢
    exact wr_mono hc e ev hp _ _ _ _ (fun x hp q => h.nx _ _ q) (fun c fs hp q => h.ex _ _ _ _ q) q
  | .mu m o a, ev, hp, D, D', h, q => by
    simp only [ws] at q ⊢
    refine mutK_mono (fun l hp st sm q => ?_) (fun Q Q' hQ q => wr_mono hc o ev hp _ _ _ _ hQ (fun c fs hp q => h.ex _ _ _ _ q) q) q
    cases m with
    | append => exact wr_mono hc a ev hp _ _ _ _ (valK_mono fun d hp q => ⟨q.1, sm _ _ _ _ h.nx q.2⟩) (fun c fs hp q => h.ex _ _ _ _ q) q
    | extend =>
      have hk : SKle (fun y hp => onSome (olOf y) fun m => l.length + m.length ≤ sizeLine ∧ st (l ++ m) hp D.nx) (fun y hp => onSome (olOf y) fun m => l.length + m.length ≤ sizeLine ∧ st (l ++ m) hp D'.nx) :=
        fun y hp q => onSome_mono q fun m q => ⟨q.1, sm _ _ _ _ h.nx q.2⟩
      exact borK_mono hk (fun q => wr_mono hc a ev hp _ _ _ _ hk (fun c fs hp q => h.ex _ _ _ _ q) q) q
  | .ite c a b, ev, hp, D, D', h, q => by
    simp only [ws] at q ⊢
    refine wr_mono hc c ev hp _ _ _ _ (truK_mono fun t hp q => ?_) (fun c fs hp q => h.ex _ _ _ _ q) q
    split at q
    · rename_i ht; rw [if_pos ht]; exact wss_mono a ev hp D D' h q
    · rename_i ht; rw [if_neg ht]; exact wss_mono b ev hp D D' h q
  | .whl c b, ev, hp, D, D', h, q => by
    simp only [ws] at q ⊢
    obtain ⟨I, h0, q⟩ := q
    refine ⟨I, h0, fun m ev hp hi => ?_⟩
    refine wr_mono hc c ev hp _ _ _ _ (truK_mono fun t hp q => ?_) (fun c fs hp q => h.ex _ _ _ _ q) (q m ev hp hi)
    split at q
    · rename_i ht; rw [if_pos ht]; refine wss_mono b ev hp _ _ ?_ q; exact ⟨fun _ _ q => q, h.rt, h.nx, fun _ _ q => q, h.ex⟩
    · rename_i ht; rw [if_neg ht]; exact h.nx _ _ q
  | .fr t e b, ev, hp, D, D', h, q => by
    simp only [ws] at q ⊢
    refine wi_mono hc e false ev hp _ _ _ _ ?_ (fun c fs hp q => h.ex _ _ _ _ q) q
    intro s hp q
    refine loopL_mono ?_ _ _ _ _ _ h.nx q
    intro x ev hp k k' hk q
    exact wg_mono hc t _ ev hp _ _ _ _ (fun ev hp q => by
      refine wss_mono b ev hp _ _ ?_ q
      exact ⟨hk, h.rt, h.nx, hk, h.ex⟩) (fun ev c fs hp q => h.ex _ _ _ _ q) q
  | .ret e, ev, hp, D, D', h, q => by
    simp only [ws] at q ⊢
    exact wr_mono hc e ev hp _ _ _ _ h.rt (fun c fs hp q => h.ex _ _ _ _ q) q
  | .retN, ev, hp, D, D', h, q => by simp only [ws] at q ⊢; exact h.rt _ _ q
  | .retV i, ev, hp, D, D', h, q => by
    simp only [ws, slotK_iff] at q ⊢
    obtain ⟨x, e, q⟩ := q
    exact ⟨x, e, h.rt _ _ q⟩
  | .brk, ev, hp, D, D', h, q => by simp only [ws] at q ⊢; exact h.bk _ _ q
  | .cont, ev, hp, D, D', h, q => by simp only [ws] at q ⊢; exact h.ct _ _ q
  | .pass, ev, hp, D, D', h, q => by simp only [ws] at q ⊢; exact h.nx _ _ q
  | .rais c fl l, ev, hp, D, D', h, q => by
    simp only [ws] at q ⊢
    exact was_mono hc l ev hp _ _ _ _ (fun ds hp q => ⟨q.1, h.ex _ _ _ _ q.2⟩) (fun c fs hp q => h.ex _ _ _ _ q) q
  | .tr b hs els, ev, hp, D, D', h, q => by
    simp only [ws] at q ⊢
    refine ⟨q.1, wss_mono b ev hp _ _ ?_ q.2⟩
    exact ⟨fun ev hp q => wss_mono els ev hp _ _ h q, h.rt, h.bk, h.ct, fun c fs ev hp q => whs_mono hs h q⟩
  | .fz i, ev, hp, D, D', h, q => by
    simp only [ws, slotK_iff] at q ⊢
    obtain ⟨x, e, q⟩ := q
    refine ⟨x, e, ?_⟩
    split at q
    · exact h.nx _ _ q
    · exact q.elim
theorem wss_mono : ∀ (l : List Sm) (ev : Ev) (hp : HpD) (D D' : EndsD), EndsLe D D' → wss cl co l ev hp D → wss cl co l ev hp D'
  | [], ev, hp, D, D', h, q => by simp only [wss] at q ⊢; exact h.nx _ _ q
  | s :: r, ev, hp, D, D', h, q => by
    simp only [wss] at q ⊢
    refine ws_mono s ev hp _ _ ?_ q
    exact ⟨fun ev hp q => wss_mono r ev hp D D' h q, h.rt, h.bk, h.ct, h.ex⟩
end
end
theorem call_mono (P : Pg) (co : ConT) : ∀ k, CallMono (callD P co k)
  | 0 => fun _ _ _ _ _ _ _ _ _ q => q
  | k + 1 => fun f ds hp Q Q' E E' h hE q => onSome_mono q fun F q => by
      refine ⟨q.1, wss_mono (call_mono P co k) F.body _ hp _ _ ?_ q.2⟩
      exact ⟨fun _ _ q => h _ _ q, h, fun _ _ q => q, fun _ _ q => q, fun c fs _ hp q => hE _ _ _ q⟩
/-- more depth does no harm -/
def CallLe (cl cl' : CallT) : Prop := ∀ f ds hp Q E, cl f ds hp Q E → cl' f ds hp Q E
end Mi

namespace Mi
open PySem PySem.Spec PyProof.Rows L2

/-! ### how a term's value lies in the layer's heap -/
def NodeT (K : PySem.W.Frag) (H : Hp) (F : Addr → Prop) (a : Addr) (vs : List V) : Prop := (Rd H a (.tup vs) ∧ ¬ F a) ∨ ∀ H', SqT K H' a vs
def NodeL (K : PySem.W.Frag) (H : Hp) (F : Addr → Prop) (a : Addr) (vs : List V) : Prop := (Rd H a (.lst vs) ∧ ¬ F a) ∨ ∀ H', SqL K H' a vs
theorem NodeT.sq {K : PySem.W.Frag} {H : Hp} {F : Addr → Prop} {a : Addr} {vs : List V} (h : NodeT K H F a vs) : SqT K H a vs := by
  rcases h with h | h
  · exact .inl h.1
  · exact h H
theorem NodeL.sq {K : PySem.W.Frag} {H : Hp} {F : Addr → Prop} {a : Addr} {vs : List V} (h : NodeL K H F a vs) : SqL K H a vs := by
  rcases h with h | h
  · exact .inl h.1
  · exact h H
section
variable (K : PySem.W.Frag) (mg : Str → Option Value) (H : Hp) (F : Addr → Prop)
mutual
inductive Rep : D → V → Prop
  | non : Rep .non .non
  | bl (b : Bool) : Rep (.bl b) (.bl b)
  | int (i : Int) : Rep (.int i) (.int i)
  | str (s : Str) : Rep (.str s) (.str s)
  | tup {l : List D} {a : Addr} {vs : List V} : NodeT K H F a vs → Reps l vs → Rep (.tup l) (.ref a)
  | lst {l : List D} {a : Addr} {vs : List V} : NodeL K H F a vs → Reps l vs → Rep (.lst l) (.ref a)
  | ref (a : Addr) : Rep (.ref a) (.ref a)
  | fn {f : Str} {a : Addr} : mg f = some (.ref a) → Rep (.fn f) (.ref a)
inductive Reps : List D → List V → Prop
  | nil : Reps [] []
  | cons {x : D} {v : V} {l : List D} {vs : List V} : Rep x v → Reps l vs → Reps (x :: l) (v :: vs)
end
end
theorem Reps.length {K : PySem.W.Frag} {mg : Str → Option Value} {H : Hp} {F : Addr → Prop} : ∀ {l : List D} {vs : List V}, Reps K mg H F l vs → l.length = vs.length
  | _, _, .nil => rfl
  | _, _, .cons _ t => by simp [Reps.length t]
theorem Reps.get {K : PySem.W.Frag} {mg : Str → Option Value} {H : Hp} {F : Addr → Prop} : ∀ {l : List D} {vs : List V} {i : Nat} {x : D}, Reps K mg H F l vs → l[i]? = some x → ∃ v, vs[i]? = some v ∧ Rep K mg H F x v
  | _, _, _, _, .nil, e => by simp at e
  | _, _, 0, _, .cons r _, e => by simp at e; subst e; exact ⟨_, rfl, r⟩
  | _, _, i + 1, x, .cons _ t, e => by
    obtain ⟨u, h1, h2⟩ := Reps.get (i := i) (x := x) t (by simpa using e)
    exact ⟨u, by simpa using h1, h2⟩
theorem Reps.getV {K : PySem.W.Frag} {mg : Str → Option Value} {H : Hp} {F : Addr → Prop} : ∀ {l : List D} {vs : List V} {i : Nat} {v : V}, Reps K mg H F l vs → vs[i]? = some v → ∃ x, l[i]? = some x ∧ Rep K mg H F x v
  | _, _, _, _, .nil, e => by simp at e
  | _, _, 0, _, .cons r _, e => by simp at e; subst e; exact ⟨_, rfl, r⟩
  | _, _, i + 1, x, .cons _ t, e => by
    obtain ⟨u, h1, h2⟩ := Reps.getV (i := i) (v := x) t (by simpa using e)
    exact ⟨u, by simpa using h1, h2⟩
theorem Reps.append {K : PySem.W.Frag} {mg : Str → Option Value} {H : Hp} {F : Addr → Prop} : ∀ {l m : List D} {vs ws : List V}, Reps K mg H F l vs → Reps K mg H F m ws → Reps K mg H F (l ++ m) (vs ++ ws)
  | _, _, _, _, .nil, s => s
  | _, _, _, _, .cons r t, s => .cons r (Reps.append t s)
theorem Reps.take {K : PySem.W.Frag} {mg : Str → Option Value} {H : Hp} {F : Addr → Prop} : ∀ {l : List D} {vs : List V} (n : Nat), Reps K mg H F l vs → Reps K mg H F (l.take n) (vs.take n)
  | _, _, 0, _ => .nil
  | _, _, _ + 1, .nil => .nil
  | _, _, n + 1, .cons r t => .cons r (Reps.take n t)
theorem Reps.drop {K : PySem.W.Frag} {mg : Str → Option Value} {H : Hp} {F : Addr → Prop} : ∀ {l : List D} {vs : List V} (n : Nat), Reps K mg H F l vs → Reps K mg H F (l.drop n) (vs.drop n)
  | _, _, 0, r => r
  | _, _, _ + 1, .nil => .nil
  | _, _, n + 1, .cons _ t => Reps.drop n t
theorem Reps.set {K : PySem.W.Frag} {mg : Str → Option Value} {H : Hp} {F : Addr → Prop} {x : D} {v : V} (r : Rep K mg H F x v) : ∀ {l : List D} {vs : List V} (n : Nat), Reps K mg H F l vs → Reps K mg H F (l.set n x) (vs.set n v)
  | _, _, _, .nil => .nil
  | _, _, 0, .cons _ t => .cons r t
  | _, _, n + 1, .cons q t => .cons q (Reps.set r n t)
theorem Reps.reverse {K : PySem.W.Frag} {mg : Str → Option Value} {H : Hp} {F : Addr → Prop} : ∀ {l : List D} {vs : List V}, Reps K mg H F l vs → Reps K mg H F l.reverse vs.reverse
  | _, _, .nil => .nil
  | _, _, .cons r t => by
    rw [List.reverse_cons, List.reverse_cons]
    exact (Reps.reverse t).append (.cons r .nil)
theorem Reps.cut {K : PySem.W.Frag} {mg : Str → Option Value} {H : Hp} {F : Addr → Prop} {l : List D} {vs : List V} (lo hi : Option Int) (r : Reps K mg H F l vs) : Reps K mg H F (Mi.cut l lo hi) (cutV vs lo hi) := by
  unfold Mi.cut cutV
  rw [r.length]
  exact (r.drop _).take _
/-- what is kept: what may not change stands on -/
def Kp (H : Hp) (F : Addr → Prop) (H' : Hp) (F' : Addr → Prop) : Prop := ∀ a o, H a = some o → ¬ F a → H' a = some o ∧ ¬ F' a
theorem Kp.refl (H : Hp) (F : Addr → Prop) : Kp H F H F := fun _ _ e f => ⟨e, f⟩
theorem Kp.rd {H H' : Hp} {F F' : Addr → Prop} (k : Kp H F H' F') {a : Addr} {u : HO} (h : Rd H a u) (f : ¬ F a) : Rd H' a u ∧ ¬ F' a := by
  rcases h with h | ⟨o, h⟩
  · exact ⟨.inl (k _ _ h f).1, (k _ _ h f).2⟩
  · exact ⟨.inr ⟨o, (k _ _ h f).1⟩, (k _ _ h f).2⟩
mutual
theorem Rep.keep {K : PySem.W.Frag} {mg : Str → Option Value} {H H' : Hp} {F F' : Addr → Prop} (k : Kp H F H' F') : ∀ {x : D} {v : V}, Rep K mg H F x v → Rep K mg H' F' x v
  | _, _, .non => .non
  | _, _, .bl b => .bl b
  | _, _, .int i => .int i
  | _, _, .str s => .str s
  | _, _, .tup n t => .tup (n.elim (fun n => .inl (k.rd n.1 n.2)) .inr) (Reps.keep k t)
  | _, _, .lst n t => .lst (n.elim (fun n => .inl (k.rd n.1 n.2)) .inr) (Reps.keep k t)
  | _, _, .ref a => .ref a
  | _, _, .fn h => .fn h
theorem Reps.keep {K : PySem.W.Frag} {mg : Str → Option Value} {H H' : Hp} {F F' : Addr → Prop} (k : Kp H F H' F') : ∀ {x : List D} {v : List V}, Reps K mg H F x v → Reps K mg H' F' x v
  | _, _, .nil => .nil
  | _, _, .cons r t => .cons (Rep.keep k r) (Reps.keep k t)
end

/-- a table whose keys are tuples: where its keys stand -/
def DTo (pw : Program × World) (a : Addr) (xs : List (List Key × Addr × V)) : HO := .ext fun h => xs.length ≤ sizeLine ∧ (a == sysModules) = false ∧ ∃ ys : List (List Key × Addr × Value),
  PySem.Paired (fun p q => p.1 = q.1 ∧ p.2.1 = q.2.1 ∧ RelV p.2.2 q.2.2) xs ys ∧ ∃ o es ep, h.get? a = some o ∧ o.ExactDict ∧ o.data = .dict es ep ∧ es.toList = ys.map (entryOfKey (tupleKind (mixKind pw.1 pw.2))) ∧ (ys.map (·.1)).Nodup
section
variable (K : PySem.W.Frag) (mg : Str → Option Value) (pw : Program × World) (H : Hp) (F : Addr → Prop)
def RepKV (l : List (Key × D)) (vs : List (Key × V)) : Prop := PySem.Paired (fun (x : Key × D) (y : Key × V) => x.1 = y.1 ∧ Rep K mg H F x.2 y.2) l vs
def RepKH (l : List (List Key × D)) (vs : List (List Key × Addr × V)) : Prop := PySem.Paired (fun (x : List Key × D) (y : List Key × Addr × V) => x.1 = y.1 ∧ NodeT K H F y.2.1 (x.1.map kV) ∧ Rep K mg H F x.2 y.2.2) l vs
def RepM (a : Addr) : MO → HO → Prop
  | .lst l, u => ∃ vs, u = .lst vs ∧ Reps K mg H F l vs
  | .dk l, u => ∃ vs, u = .dK vs ∧ RepKV K mg H F l vs
  | .dt l, u => ∃ xs, u = DTo pw a xs ∧ RepKH K mg H F l xs
end
section
variable {K : PySem.W.Frag} {mg : Str → Option Value} {pw : Program × World} {H H' : Hp} {F F' : Addr → Prop}
theorem NodeT.keep (k : Kp H F H' F') {a : Addr} {vs : List V} (n : NodeT K H F a vs) : NodeT K H' F' a vs := n.elim (fun n => .inl (k.rd n.1 n.2)) .inr
theorem RepKV.keep (k : Kp H F H' F') : ∀ {l : List (Key × D)} {vs : List (Key × V)}, RepKV K mg H F l vs → RepKV K mg H' F' l vs := fun h => by
  unfold RepKV at *
  induction h with
  | nil => exact .nil
  | cons r t ih => exact .cons ⟨r.1, Rep.keep k r.2⟩ ih
theorem RepKH.keep (k : Kp H F H' F') : ∀ {l : List (List Key × D)} {vs : List (List Key × Addr × V)}, RepKH K mg H F l vs → RepKH K mg H' F' l vs := fun h => by
  unfold RepKH at *
  induction h with
  | nil => exact .nil
  | cons r t ih => exact .cons ⟨r.1, r.2.1.keep k, Rep.keep k r.2.2⟩ ih
theorem RepM.keep (k : Kp H F H' F') {a : Addr} : ∀ {o : MO} {u : HO}, RepM K mg pw H F a o u → RepM K mg pw H' F' a o u
  | .lst _, _, ⟨vs, e, r⟩ => ⟨vs, e, Reps.keep k r⟩
  | .dk _, _, ⟨vs, e, r⟩ => ⟨vs, e, RepKV.keep k r⟩
  | .dt _, _, ⟨vs, e, r⟩ => ⟨vs, e, RepKH.keep k r⟩
end
/-- what is fixed in a body: the written part; what is held by those outside; the entry -/
structure BC where
  K : PySem.W.Frag
  mg : Str → Option Value
  pw : Program × World
  G : Addr → Prop
  H0 : Hp
  hp0 : HpD
/-- where one stands -/
structure Pt where
  ev : Ev
  st : L2.St
  hp : HpD
  H : Hp
def Pt.own (p : Pt) (a : Addr) : Prop := ∃ (i : Nat) (l : List D), p.ev[i]? = some (some (.ol l)) ∧ p.st[i]? = some (some (.ref a))
def Fb (C : BC) (p : Pt) (a : Addr) : Prop := p.hp a ≠ none ∨ p.own a ∨ C.G a
abbrev RepP (C : BC) (p : Pt) : D → V → Prop := Rep C.K C.mg p.H (Fb C p)
abbrev RepsP (C : BC) (p : Pt) : List D → List V → Prop := Reps C.K C.mg p.H (Fb C p)
def RepB (C : BC) (p : Pt) : SV → V → Prop
  | .d x, v => RepP C p x v
  | .ol l, v => ∃ a vs, v = .ref a ∧ p.H a = some (.lst vs) ∧ p.hp a = none ∧ ¬ C.G a ∧ RepsP C p l vs
  | .od _, _ => False
def Fresh (p : Pt) : SV → V → Prop
  | .ol _, v => ∀ a, v = .ref a → ¬ p.own a
  | _, _ => True
abbrev RepO (C : BC) (p : Pt) (a : Addr) (o : MO) (u : HO) : Prop := RepM C.K C.mg C.pw p.H (Fb C p) a o u
structure I3 (C : BC) (p : Pt) : Prop where
  len : p.ev.length = p.st.length
  slot : ∀ (i : Nat) (x : SV), p.ev[i]? = some (some x) → ∃ v, p.st[i]? = some (some v) ∧ RepB C p x v
  heap : ∀ a o, p.hp a = some o → ∃ u, p.H a = some u ∧ RepO C p a o u
  g : ∀ a, C.G a → (∃ o, p.H a = some o) ∧ p.hp a = none ∧ ¬ p.own a
  uniq : ∀ (i j : Nat) (l m : List D) (a : Addr), p.ev[i]? = some (some (.ol l)) → p.ev[j]? = some (some (.ol m)) → p.st[i]? = some (some (.ref a)) → p.st[j]? = some (some (.ref a)) → i = j
  kp : ∀ a o, C.H0 a = some o → C.hp0 a = none → p.H a = some o ∧ p.hp a = none ∧ ¬ p.own a
  up : ∀ a, p.H a = none → C.H0 a = none
  on : ∀ a, p.own a → C.H0 a = none
/-- kept by an expression -/
structure KE (p p' : Pt) : Prop where
  ev : p'.ev = p.ev
  st : p'.st = p.st
  kk : ∀ a o, p.H a = some o → p.hp a = none → p'.H a = some o ∧ p'.hp a = none
  up : ∀ a, p'.H a = none → p.H a = none
/-- kept by a statement -/
structure KS (p p' : Pt) : Prop where
  kk : ∀ a o, p.H a = some o → p.hp a = none → ¬ p.own a → p'.H a = some o ∧ p'.hp a = none ∧ ¬ p'.own a
  up : ∀ a, p'.H a = none → p.H a = none
theorem KE.refl (p : Pt) : KE p p := ⟨rfl, rfl, fun _ _ e f => ⟨e, f⟩, fun _ h => h⟩
theorem KE.trans {p q r : Pt} (a : KE p q) (b : KE q r) : KE p r := ⟨b.1.trans a.1, b.2.trans a.2, fun c o e f => let ⟨h1, h2⟩ := a.3 c o e f; b.3 c o h1 h2, fun c h => a.4 c (b.4 c h)⟩
theorem KS.refl (p : Pt) : KS p p := ⟨fun _ _ e f g => ⟨e, f, g⟩, fun _ h => h⟩
theorem KS.trans {p q r : Pt} (a : KS p q) (b : KS q r) : KS p r := ⟨fun c o e f g => let ⟨h1, h2, h3⟩ := a.1 c o e f g; b.1 c o h1 h2 h3, fun c h => a.2 c (b.2 c h)⟩
theorem own_eq {p p' : Pt} (h1 : p'.ev = p.ev) (h2 : p'.st = p.st) (a : Addr) : p'.own a ↔ p.own a := by unfold Pt.own; rw [h1, h2]
theorem KE.own {p p' : Pt} (k : KE p p') (a : Addr) : p'.own a ↔ p.own a := own_eq k.1 k.2 a
theorem KE.ks {p p' : Pt} (k : KE p p') : KS p p' := ⟨fun a o e f g => ⟨(k.3 a o e f).1, (k.3 a o e f).2, fun z => g ((k.own a).mp z)⟩, k.4⟩
theorem KS.kp {C : BC} {p p' : Pt} (k : KS p p') : Kp p.H (Fb C p) p'.H (Fb C p') := fun a o e f => by
  have h1 : p.hp a = none := by
    cases q : p.hp a with
    | none => rfl
    | some o => exact absurd (.inl (by rw [q]; exact nofun)) f
  obtain ⟨x, y, z⟩ := k.1 a o e h1 (fun z => f (.inr (.inl z)))
  refine ⟨x, fun w => ?_⟩
  rcases w with w | w | w
  · exact w y
  · exact z w
  · exact f (.inr (.inr w))
theorem RepB.ke {C : BC} {p p' : Pt} (k : KE p p') : ∀ {x : SV} {v : V}, RepB C p x v → RepB C p' x v
  | .d x, v, h => Rep.keep k.ks.kp h
  | .ol l, v, ⟨a, vs, e, h1, h2, h3, h4⟩ => ⟨a, vs, e, (k.3 _ _ h1 h2).1, (k.3 _ _ h1 h2).2, h3, Reps.keep k.ks.kp h4⟩
  | .od _, _, h => h
theorem Fresh.ke {p p' : Pt} (k : KE p p') : ∀ {x : SV} {v : V}, Fresh p x v → Fresh p' x v
  | .d x, v, h => trivial
  | .ol l, v, h => fun a e z => h a e ((k.own a).mp z)
  | .od _, _, h => trivial
theorem RepP.ke {C : BC} {p p' : Pt} (k : KE p p') {x : D} {v : V} (h : RepP C p x v) : RepP C p' x v := Rep.keep k.ks.kp h
theorem RepsP.ke {C : BC} {p p' : Pt} (k : KE p p') {x : List D} {v : List V} (h : RepsP C p x v) : RepsP C p' x v := Reps.keep k.ks.kp h
/-- a new object that is only read -/
theorem I3.fresh_free {C : BC} {p : Pt} (I : I3 C p) {a : Addr} (h : p.H a = none) : p.hp a = none ∧ ¬ p.own a ∧ ¬ C.G a := by
  refine ⟨?_, ?_, ?_⟩
  · cases q : p.hp a with
    | none => rfl
    | some o =>
      obtain ⟨u, e, _⟩ := I.heap a o q
      rw [h] at e; cases e
  · rintro ⟨i, l, e1, e2⟩
    obtain ⟨v, e3, b, vs, e4, e5, _⟩ := I.slot i _ e1
    rw [e2] at e3; cases e3; cases e4
    rw [h] at e5; cases e5
  · intro g
    obtain ⟨⟨o, e⟩, _⟩ := I.g a g
    rw [h] at e; cases e
/-- the heap grew (or was written) only where nothing of ours stands -/
theorem I3.step {C : BC} {p p' : Pt} (I : I3 C p) (k : KE p p') (hh : ∀ a o, p'.hp a = some o → ∃ u, p'.H a = some u ∧ RepO C p' a o u) : I3 C p' where
  len := by rw [k.1, k.2]; exact I.len
  slot := fun i x e => by
    rw [k.1] at e; rw [k.2]
    obtain ⟨v, e2, r⟩ := I.slot i x e
    exact ⟨v, e2, r.ke k⟩
  heap := hh
  g := fun a g => by
    obtain ⟨⟨o, e⟩, f, w⟩ := I.g a g
    obtain ⟨x, y⟩ := k.3 a o e f
    exact ⟨⟨o, x⟩, y, fun z => w ((k.own a).mp z)⟩
  uniq := fun i j l m a e1 e2 e3 e4 => by
    rw [k.1] at e1 e2; rw [k.2] at e3 e4
    exact I.uniq i j l m a e1 e2 e3 e4
  kp := fun a o e f => by
    obtain ⟨x, y, z⟩ := I.kp a o e f
    obtain ⟨x', y'⟩ := k.3 a o x y
    exact ⟨x', y', fun w => z ((k.own a).mp w)⟩
  up := fun a h => I.up a (k.4 a h)
  on := fun a h => I.on a ((k.own a).mp h)
theorem RepO.kp {C : BC} {p p' : Pt} (k : Kp p.H (Fb C p) p'.H (Fb C p')) {a : Addr} {o : MO} {u : HO} (h : RepO C p a o u) : RepO C p' a o u := RepM.keep k h
/-- p with another heap -/
abbrev Pt.wH (p : Pt) (H : Hp) : Pt := { p with H := H }
abbrev Pt.wh (p : Pt) (hp : HpD) (H : Hp) : Pt := { p with hp := hp, H := H }
/-- an object is laid that our heap does not know -/
theorem I3.laid {C : BC} {p : Pt} (I : I3 C p) {a : Addr} {o : HO} (h : p.H a = none) : I3 C (p.wH (upd p.H a o)) ∧ KE p (p.wH (upd p.H a o)) := by
  have k : KE p (p.wH (upd p.H a o)) := ⟨rfl, rfl, fun b u e f => ⟨by show upd p.H a o b = some u; rw [upd_ne (ne_of_none e h)]; exact e, f⟩, fun b hb => by
    by_cases e : b = a
    · rw [e]; exact h
    · have hb' : upd p.H a o b = none := hb
      rw [upd_ne e] at hb'; exact hb'⟩
  refine ⟨I.step k fun b u e => ?_, k⟩
  obtain ⟨w, e2, r⟩ := I.heap b u e
  exact ⟨w, by show upd p.H a o b = some w; rw [upd_ne (ne_of_none e2 h)]; exact e2, RepO.kp k.ks.kp r⟩
/-- an object is laid that our heap knows, too -/
theorem I3.made {C : BC} {p : Pt} (I : I3 C p) {a : Addr} {l : List D} {vs : List V} (h : p.H a = none) (r : RepsP C p l vs) :
    I3 C (p.wh (updD p.hp a (.lst l)) (upd p.H a (.lst vs))) ∧ KE p (p.wh (updD p.hp a (.lst l)) (upd p.H a (.lst vs))) := by
  have k : KE p (p.wh (updD p.hp a (.lst l)) (upd p.H a (.lst vs))) := ⟨rfl, rfl, fun b u e f => by
    have ne : b ≠ a := ne_of_none e h
    exact ⟨by show upd p.H a _ b = some u; rw [upd_ne ne]; exact e, by show updD p.hp a _ b = none; rw [updD_ne ne]; exact f⟩, fun b hb => by
    by_cases e : b = a
    · rw [e]; exact h
    · have hb' : upd p.H a _ b = none := hb
      rw [upd_ne e] at hb'; exact hb'⟩
  refine ⟨I.step k fun b u e => ?_, k⟩
  by_cases hb : b = a
  · subst hb
    have e' : updD p.hp b (.lst l) b = some u := e
    rw [updD_same] at e'; cases e'
    exact ⟨.lst vs, upd_same, vs, rfl, Reps.keep k.ks.kp r⟩
  · have e' : updD p.hp a (.lst l) b = some u := e
    rw [updD_ne hb] at e'
    obtain ⟨w, e2, r⟩ := I.heap b u e'
    exact ⟨w, by show upd p.H a _ b = some w; rw [upd_ne hb]; exact e2, RepO.kp k.ks.kp r⟩
/-- a new tuple, a new list that never changes -/
theorem I3.newT {C : BC} {p : Pt} (I : I3 C p) {a : Addr} {l : List D} {vs : List V} (h : p.H a = none) (r : RepsP C p l vs) : RepP C (p.wH (upd p.H a (.tup vs))) (.tup l) (.ref a) := by
  obtain ⟨f1, f2, f3⟩ := I.fresh_free h
  refine .tup (.inl ⟨.inl upd_same, fun z => ?_⟩) (Reps.keep (I.laid h).2.ks.kp r)
  rcases z with z | z | z
  · exact z f1
  · exact f2 z
  · exact f3 z
theorem I3.newL {C : BC} {p : Pt} (I : I3 C p) {a : Addr} {l : List D} {vs : List V} (h : p.H a = none) (r : RepsP C p l vs) : RepP C (p.wH (upd p.H a (.lst vs))) (.lst l) (.ref a) := by
  obtain ⟨f1, f2, f3⟩ := I.fresh_free h
  refine .lst (.inl ⟨.inl upd_same, fun z => ?_⟩) (Reps.keep (I.laid h).2.ks.kp r)
  rcases z with z | z | z
  · exact z f1
  · exact f2 z
  · exact f3 z
theorem I3.own_some {C : BC} {p : Pt} (I : I3 C p) {a : Addr} (h : p.own a) : ∃ vs, p.H a = some (.lst vs) ∧ p.hp a = none := by
  obtain ⟨i, l, e1, e2⟩ := h
  obtain ⟨v, e3, b, vs, e4, e5, e6, _⟩ := I.slot i _ e1
  rw [e2] at e3; cases e3; cases e4
  exact ⟨vs, e5, e6⟩
/-- from one ghost to another -/
theorem I3.move {C C' : BC} {p p' : Pt} (I : I3 C p) (hev : p'.ev = p.ev) (hst : p'.st = p.st) (hK : C'.K = C.K) (hm : C'.mg = C.mg) (hw : C'.pw = C.pw)
    (hkp : ∀ a o, p.H a = some o → p.hp a = none → ¬ C.G a → p'.H a = some o ∧ p'.hp a = none ∧ ¬ C'.G a)
    (heap : Kp p.H (Fb C p) p'.H (Fb C' p') → ∀ a o, p'.hp a = some o → ∃ u, p'.H a = some u ∧ RepO C' p' a o u) (g : ∀ a, C'.G a → (∃ o, p'.H a = some o) ∧ p'.hp a = none ∧ ¬ p.own a)
    (kp : ∀ a o, C'.H0 a = some o → C'.hp0 a = none → p'.H a = some o ∧ p'.hp a = none ∧ ¬ p.own a) (up : ∀ a, p'.H a = none → C'.H0 a = none) (on : ∀ a, p.own a → C'.H0 a = none) : I3 C' p' ∧ Kp p.H (Fb C p) p'.H (Fb C' p') := by
  have kk : Kp p.H (Fb C p) p'.H (Fb C' p') := fun a o e f => by
    have h1 : p.hp a = none := by
      cases q : p.hp a with
      | none => rfl
      | some o => exact absurd (.inl (by rw [q]; exact nofun)) f
    obtain ⟨x, y, z⟩ := hkp a o e h1 fun w => f (.inr (.inr w))
    refine ⟨x, fun w => ?_⟩
    rcases w with w | w | w
    · exact w y
    · exact f (.inr (.inl ((own_eq hev hst a).mp w)))
    · exact z w
  refine ⟨⟨by rw [hev, hst]; exact I.len, fun i x e => ?_, heap kk, fun a h => ?_, fun i j l m a e1 e2 e3 e4 => ?_, fun a o e f => ?_, up, fun a h => on a ((own_eq hev hst a).mp h)⟩, kk⟩
  · rw [hev] at e; rw [hst]
    obtain ⟨v, e2, r⟩ := I.slot i x e
    refine ⟨v, e2, ?_⟩
    cases x with
    | d x =>
      have r' : Rep C.K C.mg p.H (Fb C p) x v := r
      have r2 := Rep.keep kk r'
      rw [← hK, ← hm] at r2
      exact r2
    | ol l =>
      obtain ⟨a, vs, e3, h1, h2, h3, h4⟩ := r
      obtain ⟨x1, x2, x3⟩ := hkp a _ h1 h2 h3
      have r2 := Reps.keep kk h4
      rw [← hK, ← hm] at r2
      exact ⟨a, vs, e3, x1, x2, x3, r2⟩
    | od l => exact r
  · obtain ⟨h1, h2, h3⟩ := g a h
    exact ⟨h1, h2, fun z => h3 ((own_eq hev hst a).mp z)⟩
  · rw [hev] at e1 e2; rw [hst] at e3 e4
    exact I.uniq i j l m a e1 e2 e3 e4
  · obtain ⟨h1, h2, h3⟩ := kp a o e f
    exact ⟨h1, h2, fun z => h3 ((own_eq hev hst a).mp z)⟩
/-- an address that nothing else speaks of -/
def BC.wG (C : BC) (D : Addr) : BC := { C with G := fun a => a = D ∨ C.G a }
theorem I3.inG {C : BC} {p : Pt} {D : Addr} {u : HO} (I : I3 C p) (hD : p.H D = none) : I3 (C.wG D) (p.wH (upd p.H D u)) ∧ Kp p.H (Fb C p) (upd p.H D u) (Fb (C.wG D) (p.wH (upd p.H D u))) := by
  obtain ⟨f1, f2, f3⟩ := I.fresh_free hD
  have ne : ∀ {a o}, p.H a = some o → a ≠ D := fun e => ne_of_none e hD
  refine (I.move (C' := C.wG D) (p' := p.wH (upd p.H D u)) rfl rfl rfl rfl rfl (fun a o e h1 h2 => ⟨?_, h1, ?_⟩) (fun kk a o e => ?_) (fun a h => ?_) (fun a o e f => ?_) (fun a h => ?_) I.on)
  · show upd p.H D u a = some o; rw [upd_ne (ne e)]; exact e
  · rintro (z | z)
    · exact ne e z
    · exact h2 z
  · obtain ⟨w, e2, r⟩ := I.heap a o e
    exact ⟨w, by show upd p.H D u a = some w; rw [upd_ne (ne e2)]; exact e2, RepM.keep kk r⟩
  · rcases h with h | h
    · subst h; exact ⟨⟨u, upd_same⟩, f1, f2⟩
    · obtain ⟨⟨o, h1⟩, h2, h3⟩ := I.g a h
      exact ⟨⟨o, by show upd p.H D u a = some o; rw [upd_ne (ne h1)]; exact h1⟩, h2, h3⟩
  · obtain ⟨h1, h2, h3⟩ := I.kp a o e f
    exact ⟨by show upd p.H D u a = some o; rw [upd_ne (ne h1)]; exact h1, h2, h3⟩
  · have h' : upd p.H D u a = none := h
    by_cases ha : a = D
    · rw [ha, upd_same] at h'; cases h'
    · rw [upd_ne ha] at h'; exact I.up a h'
theorem I3.outG {C : BC} {p : Pt} {D : Addr} (I : I3 (C.wG D) p) : I3 C p ∧ Kp p.H (Fb (C.wG D) p) p.H (Fb C p) :=
  I.move rfl rfl rfl rfl rfl (fun a o e h1 h2 => ⟨e, h1, fun z => h2 (.inr z)⟩) (fun kk a o e => let ⟨w, e2, r⟩ := I.heap a o e; ⟨w, e2, RepM.keep kk r⟩) (fun a h => I.g a (.inr h)) I.kp I.up I.on
/-- that one is written -/
theorem I3.grow {C : BC} {p : Pt} {D : Addr} {u : HO} (I : I3 (C.wG D) p) (h0 : C.H0 D = none) : I3 (C.wG D) (p.wH (upd p.H D u)) ∧ Kp p.H (Fb (C.wG D) p) (upd p.H D u) (Fb (C.wG D) (p.wH (upd p.H D u))) := by
  obtain ⟨⟨oD, g1⟩, g2, g3⟩ := I.g D (.inl rfl)
  refine I.move (C' := C.wG D) (p' := p.wH (upd p.H D u)) rfl rfl rfl rfl rfl (fun a o e h1 h2 => ⟨?_, h1, h2⟩) (fun kk a o e => ?_) (fun a h => ?_) (fun a o e f => ?_) (fun a h => ?_) I.on
  · show upd p.H D u a = some o; rw [upd_ne fun z => h2 (.inl z)]; exact e
  · obtain ⟨w, e2, r⟩ := I.heap a o e
    have ne : a ≠ D := fun z => by rw [z, g2] at e; cases e
    exact ⟨w, by show upd p.H D u a = some w; rw [upd_ne ne]; exact e2, RepM.keep kk r⟩
  · obtain ⟨⟨o, h1⟩, h2, h3⟩ := I.g a h
    by_cases ha : a = D
    · exact ⟨⟨u, by rw [ha]; exact upd_same⟩, h2, h3⟩
    · exact ⟨⟨o, by show upd p.H D u a = some o; rw [upd_ne ha]; exact h1⟩, h2, h3⟩
  · obtain ⟨h1, h2, h3⟩ := I.kp a o e f
    have ne : a ≠ D := fun z => by
      have e' : C.H0 a = some o := e
      rw [z, h0] at e'; cases e'
    exact ⟨by show upd p.H D u a = some o; rw [upd_ne ne]; exact h1, h2, h3⟩
  · have h' : upd p.H D u a = none := h
    by_cases ha : a = D
    · rw [ha, upd_same] at h'; cases h'
    · rw [upd_ne ha] at h'; exact I.up a h'
/-- a list made since p: nothing speaks of it -/
def New (C : BC) (p p' : Pt) : SV → V → Prop
  | .ol l, v => ∀ a, v = .ref a → p.H a = none ∧ I3 (C.wG a) p' ∧ ∃ vs, p'.H a = some (.lst vs) ∧ RepsP (C.wG a) p' l vs
  | _, _ => True
theorem I3.newO {C : BC} {p : Pt} (I : I3 C p) {a : Addr} {l : List D} {vs : List V} (h : p.H a = none) (r : RepsP C p l vs) :
    RepB C (p.wH (upd p.H a (.lst vs))) (.ol l) (.ref a) ∧ New C p (p.wH (upd p.H a (.lst vs))) (.ol l) (.ref a) := by
  obtain ⟨f1, f2, f3⟩ := I.fresh_free h
  exact ⟨⟨a, vs, rfl, upd_same, f1, f3, Reps.keep (I.laid h).2.ks.kp r⟩, fun b e => by cases e; exact ⟨h, (I.inG h).1, vs, upd_same, Reps.keep (I.inG h).2 r⟩⟩
theorem New.fresh {C : BC} {p p' : Pt} (I : I3 C p) : ∀ {x : SV} {v : V}, New C p p' x v → Fresh p x v
  | .ol l, v, h => fun a e z => by
    obtain ⟨vs, e2, _⟩ := I.own_some z
    rw [(h a e).1] at e2; cases e2
  | .d x, v, h => trivial
  | .od l, v, h => trivial
theorem New.back {C : BC} {p p' q : Pt} (k : KE p p') : ∀ {x : SV} {v : V}, New C p' q x v → New C p q x v
  | .ol l, v, h => fun a e => ⟨k.4 a (h a e).1, (h a e).2⟩
  | .d x, v, h => trivial
  | .od l, v, h => trivial
/-- a list that nothing speaks of -/
theorem I3.addG {C : BC} {p p' : Pt} {a : Addr} (I : I3 C p) (I' : I3 C p') (k : KE p p') (hn : p.H a = none) (h1 : ∃ o, p'.H a = some o) (h2 : p'.hp a = none) (hh : ∀ u o, p'.hp u = some o → ∃ w, p'.H u = some w ∧ RepO (C.wG a) p' u o w) : I3 (C.wG a) p' := by
  obtain ⟨f1, f2, f3⟩ := I.fresh_free hn
  have kp : Kp p.H (Fb C p) p'.H (Fb (C.wG a) p') := fun u o e f => by
    obtain ⟨x, y⟩ := k.ks.kp u o e f
    refine ⟨x, fun z => ?_⟩
    rcases z with z | z | z | z
    · exact y (.inl z)
    · exact y (.inr (.inl z))
    · exact ne_of_none e hn z
    · exact y (.inr (.inr z))
  refine ⟨I'.len, fun i x e => ?_, hh, fun u z => ?_, I'.uniq, I'.kp, I'.up, I'.on⟩
  · rw [k.1] at e; rw [k.2]
    obtain ⟨v, e2, r⟩ := I.slot i x e
    refine ⟨v, e2, ?_⟩
    cases x with
    | d x => exact Rep.keep kp r
    | ol l =>
      obtain ⟨b, vs, e3, h3, h4, h5, h6⟩ := r
      refine ⟨b, vs, e3, (k.3 _ _ h3 h4).1, (k.3 _ _ h3 h4).2, ?_, Reps.keep kp h6⟩
      rintro (z | z)
      · exact ne_of_none h3 hn z
      · exact h5 z
    | od l => exact r
  · rcases z with z | z
    · subst z
      exact ⟨h1, h2, fun z => f2 ((k.own _).mp z)⟩
    · exact I'.g u z
/-- a list that nobody holds never changes from now on -/
theorem RepB.frz {C : BC} {p : Pt} {l : List D} {v : V} (h : RepB C p (.ol l) v) (f : Fresh p (.ol l) v) : RepP C p (.lst l) v := by
  obtain ⟨a, vs, rfl, h1, h2, h3, h4⟩ := h
  refine .lst (.inl ⟨.inl h1, fun z => ?_⟩) h4
  rcases z with z | z | z
  · exact z h2
  · exact f a rfl z
  · exact h3 z
end Mi

namespace Mi
open PySem PySem.Spec PyProof.Rows L2

/-! ### a def's promise where no guard is up (what repr shows hangs on these) -/
def NoGd (A : Around) : Prop := A.guards = some []
structure FnG (P : Program) (w : World) (K : PySem.W.Frag) (mg : Str → Option Value) (base : Heap) (CX : CXT) (k : Nat) (f : Addr) (fd : FuncData) (ps : List Str) (sp : Sp) : Prop where
  len : ∀ vs H Q E, sp vs H Q E → vs.length = ps.length
  run : ∀ (A : Around) (outer : List Env) (s : Shared) (H : Hp) (args : Args) (us : List Value) (vs : List V) (Q : VK) (E : XK),
    Room k A → NoGd A → Env0 P w K mg base A outer s H → BindsTo s fd args (ps.zip us) → Vals vs us → sp vs H Q E →
      codeAny (model P w) A (.call (.ref f) args) (CR CX outer P w H s Q E) s
section
variable {X : Cx} {CX : CXT} {k : Nat} {f : Addr} {fd : FuncData} {ps : List Str} {sp : Sp} {E : L2.St → XK} {x : Str} {p pos : Pos} {t : TA}
def tCallG (sp : Sp) (E : L2.St → XK) (dv : List V) (t : TA) : TE := fun σ H Q => t σ H fun vs H1 => sp (vs ++ dv) H1 Q (E σ)
theorem run_fnG {pins : List (Addr × Obj)} {σ : L2.St} {H : Hp} {s : Shared} {Q : VK} {us ds : List Value} {vs dv : List V}
    (F : FnG X.prog X.w X.K X.mg X.base CX k f fd ps sp) (hr : Room k X.A) (hG : NoGd X.A) (hb : Binds X.K fd ps ds) (hd : Vals dv ds) (hx : PassesAt CX X σ (E σ))
    (I : Inv X pins σ H s) (r : Vals vs us) (h : sp (vs ++ dv) H Q (E σ)) : wpAny (model X.prog X.w) X.A (call (.ref f) us) (EP X pins σ Q) X.xe s := by
  have hl : (us ++ ds).length = ps.length := (r.append hd).length.symm.trans (F.len _ _ _ _ h)
  have go := F.run X.A X.stack s H ⟨us, []⟩ (us ++ ds) (vs ++ dv) Q (E σ) hr hG I.env0 (hb s us I.kIn hl) (r.append hd) h
  refine wpAny_call (codeAny_mono go ?_)
  rintro (e | fl) s' hq
  · exact hx pins H s e s' I hq
  · cases fl with
    | ret u => exact I.after hq
    | next | brk | cont => exact False.elim hq
theorem pe_callG {e : Expr} {es : List Expr} {ds : List Value} {dv : List V} (F : FnG X.prog X.w X.K X.mg X.base CX k f fd ps sp) (hr : Room k X.A) (hG : NoGd X.A) (hg : Gl X x) (hm : X.mg x = some (.ref f))
    (hk : PySem.W.keepIn X.K (.ref f) = true) (hb : Binds X.K fd ps ds) (hd : Vals dv ds) (hx : ∀ σ, PassesAt CX X σ (E σ)) (ha : PA X (e :: es) t) (hdb : (x == ("__debug__" : Str)) = false)
    (he : starEach (e :: es) X.env = (false, eval e X.env) :: starEach es X.env) (hpl : (backTo pos (starEach es X.env)).any (·.1) = false) :
    PE X (.Call (.Name x p) (e :: es) [] pos) (tCallG sp E dv t) := ⟨fun pins s σ H Q I h =>
  wpAny_Call_Name_kw (ld_glob I hg hm (PySem.W.callWith_K (h₀ := X.base) I.ok.mod.kin hk
    (thn (ha.run pos pins s σ H _ I h) fun us s1 ⟨vs, H1, I1, r, q⟩ => ⟨I1.kIn, run_fnG F hr hG hb hd (hx σ) I1 r q⟩) he hpl) hdb)⟩
theorem pe_callG0 {ds : List Value} {dv : List V} (F : FnG X.prog X.w X.K X.mg X.base CX k f fd ps sp) (hr : Room k X.A) (hG : NoGd X.A) (hg : Gl X x) (hm : X.mg x = some (.ref f))
    (hk : PySem.W.keepIn X.K (.ref f) = true) (hb : Binds X.K fd ps ds) (hd : Vals dv ds) (hx : ∀ σ, PassesAt CX X σ (E σ)) (hdb : (x == ("__debug__" : Str)) = false) :
    PE X (.Call (.Name x p) [] [] pos) (tCallG sp E dv tNil) := ⟨fun pins s σ H Q I h =>
  wpAny_Call_Name_kw (ld_glob I hg hm (PySem.W.callWith_K0 I.kIn hk (run_fnG (us := []) F hr hG hb hd (hx σ) I .nil h)) hdb)⟩
end

/-- a def as it stands behind the top, whatever its defaults -/
structure FunV (K : PySem.W.Frag) (x qual : Str) (st : Stmt) (f : Addr) (fd : FuncData) : Prop where
  ex : ∃ (oc : Value) (od : Option Addr) (dV kV doc pm : Value) (an : Option Addr) (cdv ct : Value) (osl : Array (Option Value)),
    fd = PySem.W.fnOf x qual (defArgs st) (defBody st) (defScope st) dV kV doc pm an cdv ct ∧ K.lookup f = some ⟨oc, od, .func fd, osl⟩ ∧ PySem.W.codeIn K cdv qual = true
  kp : PySem.W.keepIn K (.ref f) = true
theorem funV_mk {K : PySem.W.Frag} {x qual : Str} {st : Stmt} {f : Addr} {oc : Value} {od an : Option Addr} {osl : Array (Option Value)} {dV kV doc pm cdv ct : Value} (l : K.lookup f = some ⟨oc, od, .func (PySem.W.fnOf x qual (defArgs st) (defBody st) (defScope st) dV kV doc pm an cdv ct), osl⟩)
    (c : PySem.W.codeIn K cdv qual = true) (k : PySem.W.keepIn K (.ref f) = true) : FunV K x qual st f (PySem.W.fnOf x qual (defArgs st) (defBody st) (defScope st) dV kV doc pm an cdv ct) := ⟨⟨oc, od, dV, kV, doc, pm, an, cdv, ct, osl, rfl, l, c⟩, k⟩
/-- a def keeps its promise where its body does -/
theorem fn_ofG {CX : CXT} {P : Program} {w : World} {K : PySem.W.Frag} {mg : Str → Option Value} {base : Heap} {k : Nat} {f : Addr} {x qual : Str} {st : Stmt} {fd : FuncData} {N ps : List Str} {sp : Sp}
    (F : FunV K x qual st f fd) (S : FnScope N ps (defScope st)) (len : ∀ vs H Q E, sp vs H Q E → vs.length = ps.length)
    (hbody : ∀ (cdv : Value) (A : Around) (outer : List Env) (s : Shared) (H : Hp) (vs : List V) (Q : VK) (E : XK),
      Room k (A.deeper (envOfC qual (defScope st) s.heap.objs.size f cdv)) → NoGd (A.deeper (envOfC qual (defScope st) s.heap.objs.size f cdv)) → sp vs H Q E →
        ∃ t, PSs (cxOf CX P w K mg base N qual (defScope st) f cdv A outer s H E) (defBody st) t ∧ t { nx := fun _ H' => Q .non H', rt := Q } (start N vs) H) :
    FnG P w K mg base CX (k + 1) f fd ps sp := by
  obtain ⟨oc, od, dV, kV, doc, pm, an, cdv, ct, osl, rfl, lk, hcd⟩ := F.ex
  refine ⟨len, ?_⟩
  intro A outer s H args us vs Q E hr hG e0 hb r hsp
  have KX : K.In s.heap := e0.mod.kin.keeps fun b o e => (e0.bs b o e).1
  have hkind : ∀ y ∈ ps.zip us, (defScope st).names.lookup y.1 = some .local ∨ ((defScope st).names.lookup y.1 = some .cell ∧ ((cellsFrom (s.heap.objs.size + 1) (defScope st).names []).lookup y.1).isSome = true) := by
    rintro ⟨n, v⟩ hy
    exact (S.par n (List.of_mem_zip hy).1).elim .inl fun q => .inr ⟨q, PySem.W.cellsFrom_some _ _ _ (.inl q)⟩
  refine codeAny_call_function hr.depth (KX _ _ lk) rfl S.co S.gen rfl (PySem.W.codeRec_of KX hcd) (hb _ _ _ _ (wpAny_newFunctionEnv_cells S.kind hkind ?_))
  rintro env rfl s1 x1
  refine ⟨(e0.mod.nolimit.keeps fun b o e => (e0.bs b o e).1 : s.heap.NoLimit).keeps x1.toInCall.keep, codeAny_func ?_⟩
  obtain ⟨t, ht, hq⟩ := hbody cdv A outer s H vs Q E (hr.deeper _) hG hsp
  have I := inv_start (CX := CX) (E := E) S hr.hd e0 (len _ _ _ _ hsp) r x1
  refine wpAny_mono (ht.run [] s1 (start N vs) H _ I hq) ?_ fun e s' hs => hs
  intro fl s' hs
  cases fl with
  | ret u => obtain ⟨v, σ', H', J, rv, q⟩ := hs; exact ⟨v, H', J.os, J.bare, J.base, J.hok, rv, q⟩
  | next => obtain ⟨σ', H', J, q⟩ := hs; exact ⟨.non, H', J.os, J.bare, J.base, J.hok, rfl, q⟩
  | brk => exact hs.elim fun _ h => h.elim fun _ h => h.2.elim
  | cont => exact hs.elim fun _ h => h.elim fun _ h => h.2.elim
theorem deeper_gd {A : Around} {env : Env} (h : NoGd A) : NoGd (A.deeper env) := h
end Mi

set_option maxHeartbeats 2000000
namespace Mi
open PySem PySem.Spec PyProof.Rows L2

/-! ### try, any number of clauses, each with a name or without, with an else -/
/-- a clause: its class, the slot of its name, its suite -/
abbrev HdT := Value × Option Nat × (Addr → Value → Option Addr → TS)
def goneD (i : Option Nat) (D : Ends) : Ends := match i with
  | none => D
  | some i => { nx := fun σ' H' => D.nx (σ'.set i none) H', rt := D.rt, bk := fun σ' H' => D.bk (σ'.set i none) H', ct := fun σ' H' => D.ct (σ'.set i none) H' }
def setO (i : Option Nat) (a : Addr) (σ : L2.St) : L2.St := match i with
  | none => σ
  | some i => σ.set i (some (.ref a))
/-- what the clauses wish of an exception of the body -/
def wHd (K : PySem.W.Frag) (Wout : WX) (D : Ends) : List HdT → WX
  | [] => Wout
  | (c, i, ts) :: r => fun cls d σ H => ∃ b, PySem.W.exmOne K cls c = some b ∧ (b = true → ∀ a, H a = none → ts a cls d (goneD i D) (setO i a σ) H) ∧ (b = false → wHd K Wout D r cls d σ H)
def NameAt (X : Cx) : Option Str → Option Nat → Prop
  | none, none => True
  | some n, some i => X.N[i]? = some n ∧ X.env.kindOf n = some .local
  | _, _ => False
inductive HdOk (X : Cx) : List ExceptHandler → List HdT → Prop
  | nil : HdOk X [] []
  | cons {x : Str} {c : Value} {nm : Option Str} {i : Option Nat} {ts : Addr → Value → Option Addr → TS} {b₀ : Stmt} {suite : List Stmt} {np pos' : Pos} {hds : List ExceptHandler} {l : List HdT} (hc : Names X x c) (hn : NameAt X nm i)
      (hsu : ∀ (a : Addr) (oe : Obj) (cls : Value) (d : Option Addr) (pn : List (Addr × Obj)), Zc cls d oe → (∃ vs, oe.data = .fields vs) → PSs (X.suite a ((a, oe) :: pn)) (b₀ :: suite) (ts a cls d)) (r : HdOk X hds l) :
      HdOk X (.ExceptHandler (some (.Name x np)) nm (b₀ :: suite) pos' :: hds) ((c, i, ts) :: l)
section
variable {X : Cx} {body orelse : List Stmt} {h₀ : ExceptHandler} {hds : List ExceptHandler} {l : List HdT} {pos : Pos} {tb : WX → TS} {u : TS} {Wout : WX}
theorem ps_tryG (hN : X.N.Nodup) (ho : PSs X orelse u) (hs : X.stack = X.env :: X.outer) (hf : X.env.frame = some X.env.locals) (tk : Takes X Wout)
    (hb : ∀ (W : WX) (pn : List (Addr × Obj)) (xe : Value → Shared → Prop), Takes (X.tr pn xe) W → PassesOwn (model X.prog X.w) X.A X.env xe → PSs (X.tr pn xe) body (tb W))
    (hh : HdOk X (h₀ :: hds) l) : PS X (.Try body (h₀ :: hds) orelse [] pos) (fun D σ H => tb (wHd X.K Wout D l) { D with nx := u D } σ H) := by
  refine ⟨fun pins s σ H D I h => ?_⟩
  have ok := I.ok
  have hfr : X.A.frames = some (X.env :: X.outer) := by rw [ok.frames, hs]
  refine wpAny_Try_except ?_
  refine wpAny_mono ((hb (wHd X.K Wout D l) (X.pn ++ pins) (fun e s₁ => wpAny (model X.prog X.w) X.A (noteFrame e X.env) (fun _ s₂ => wpAny (model X.prog X.w) X.A (setFlight e none) (fun _ s₃ =>
    wpAny (model X.prog X.w) X.A (handleBy e X.env (h₀ :: hds)) (SP X pins D) X.xe s₃) X.xe s₂) X.xe s₁) (fun u s' xx => ?_) PassesOwn.looking).run [] s σ H { D with nx := u D } (I.toTry _) h) (fun f s1 hsp => ?_) (fun e s1 he => he)
  · -- the catch
    obtain ⟨a, B, sI, pins', σ', H', cls, d, rfl, J', nb, up, sky, na, os, ag, w⟩ := xx
    have J : Inv X pins σ' H' sI := J'.ofTry ok
    have sky' : Sky B (X.env :: X.outer) a (Zc cls d) X.env.locals s'.heap := by rw [← hs]; exact sky
    show wpAny (model X.prog X.w) X.A (noteFrame (.ref a) X.env) _ _ _
    refine Sky.land Zc.steady hfr hf sky' fun h3 fl3 up3 => ?_
    have J3 : Inv X pins σ' H' { s' with heap := h3 } := J.landed nb fl3.1 (up.trans up3) os ag
    obtain ⟨oe3, vs3, he3, hz3, hd3⟩ := fl3.there
    have notFr : ∀ {h : Heap} {o : Obj} {vs : Array Value}, h.FunFrames B (X.env :: X.outer) → h.get? a = some o → o.data = .fields vs → a ∉ frs (X.env :: X.outer) := fun {h o vs} ff e dd hm => by
      obtain ⟨_, o', e', hnf⟩ := ff.mem hm
      rw [e] at e'; cases e'
      exact hnf _ dd
    have nfr := notFr fl3.2.2.1 he3 hd3
    have nL : a ≠ X.env.locals := fun z => nfr (List.mem_filterMap.mpr ⟨X.env, List.mem_cons_self, by rw [hf, z]⟩)
    have nF : a ∉ X.fs := fun hm => by
      obtain ⟨e, he, q⟩ := List.mem_filterMap.mp hm
      exact nfr (List.mem_filterMap.mpr ⟨e, List.mem_cons_of_mem _ he, q⟩)
    have S3 := J3.suite he3 hd3 na nL nF
    have go : ∀ {hds' : List ExceptHandler} {l' : List HdT}, HdOk X hds' l' → wHd X.K Wout D l' cls d σ' H' →
        wpAny (model X.prog X.w) X.A (handleBy (.ref a) X.env hds') (SP X pins D) X.xe { s' with heap := h3 } := by
      intro hds' l' hk
      induction hk with
      | nil =>
        intro w
        refine wpAny_handleBy_nil ?_
        obtain ⟨k1, k2, k3, oe, vs, T, oT, ts', he, hz, hd, h1, hr⟩ := id fl3
        unfold PySem.passOn
        refine wpAny_bind (wpAny_field he hd h1 ?_)
        rw [if_neg (show ¬ ((Value.ref T == Value.none) = true) from by simp)]
        have fin : wpAny (model X.prog X.w) X.A (setFlight (.ref a) X.env.frame) (fun _ s4 => wpAny (model X.prog X.w) X.A (throw (.ref a) : Sem Flow) (SP X pins D) X.xe s4) X.xe { s' with heap := h3 } := by
          rw [hf]
          refine HandSPX.setFlight_upZ fl3 fun h4 hh4 up4 => wpAny_throw (tk _ _ ?_)
          exact ⟨a, B, sI, pins, σ', H', cls, d, rfl, J, nb, (up.trans up3).trans up4, .inr (.inr (by rw [hs]; exact hh4)), na, os, ag, w⟩
        first
          | exact wpAny_bind (wpAny_pure (wpAny_bind fin))
          | exact wpAny_bind fin
      | @cons x c nm i ts b₀ suite np pos' hds2 l2 hc hn hsu r ih =>
        intro w
        obtain ⟨b, hb1, hyes, hno⟩ := w
        refine wpAny_handleBy_cons (codeAny_handlers_test ?_) (by intro q; cases q)
        have LT : PySem.W.Looks (model X.prog X.w) h3 (typeOf (.ref a)) cls := fun A Q E s k q => wpAny_typeOf_ref (k _ _ he3) (by rw [hz3.1]; exact q)
        have LM := PySem.W.exm_one (M := model X.prog X.w) (J3.kIn) LT hb1
        have test : ∀ {Q : Value → Shared → Prop} {E : Value → Shared → Prop}, Q c { s' with heap := h3 } → wpAny (model X.prog X.w) (X.A.mark (some (.ref a))) (eval (.Name x np) X.env) Q E { s' with heap := h3 } := fun {Q E} q => by
          obtain ⟨hg, hdbg, hm | ⟨hm, hv, hnn⟩⟩ := hc
          · exact ld_glob (X := X.suite a ((a, oe3) :: (X.pn ++ pins))) S3 hg hm q hdbg
          · exact ld_blt (X := X.suite a ((a, oe3) :: (X.pn ++ pins))) S3 hg hm hv q hnn hdbg
        refine test (LM.here ?_)
        cases b with
        | true =>
          cases nm with
          | none =>
            cases i with
            | some i => exact hn.elim
            | none =>
              refine codeAny_handlers_suite ?_
              refine HandSPX.lands_againZ fl3 fun h4 fl4 up4 => ?_
              have J4 : Inv X pins σ' H' { s' with heap := h4 } := J.landed nb fl4.1 ((up.trans up3).trans up4) os ag
              obtain ⟨oe4, vs4, he4, hz4, hd4⟩ := fl4.there
              have S4 := J4.suite he4 hd4 na nL nF
              refine wpAny_mono ((hsu a oe4 cls d (X.pn ++ pins) hz4 ⟨_, hd4⟩).run [] _ _ H' _ S4 (hyes rfl a na)) (fun f s6 hsp => ?_) (fun _ _ z => False.elim z)
              cases f with
              | next =>
                obtain ⟨σ6, H6, S6, q6⟩ := hsp
                exact ⟨_, _, S6.unsuite ok, q6⟩
              | brk =>
                obtain ⟨σ6, H6, S6, q6⟩ := hsp
                exact ⟨_, _, S6.unsuite ok, q6⟩
              | cont =>
                obtain ⟨σ6, H6, S6, q6⟩ := hsp
                exact ⟨_, _, S6.unsuite ok, q6⟩
              | ret u =>
                obtain ⟨v6, σ6, H6, S6, r6, q6⟩ := hsp
                exact ⟨_, _, _, S6.unsuite ok, r6, q6⟩
          | some n =>
            cases i with
            | none => exact hn.elim
            | some i =>
              obtain ⟨hi, hln⟩ := hn
              have hloc : Loc X.env.scope n := .inl hln
              refine codeAny_handlers_suite_as ?_
              refine HandSPX.lands_againZ fl3 fun h4 fl4 up4 => ?_
              have J4 : Inv X pins σ' H' { s' with heap := h4 } := J.landed nb fl4.1 ((up.trans up3).trans up4) os ag
              obtain ⟨oe4, vs4, he4, hz4, hd4⟩ := fl4.there
              have S4 := J4.suite he4 hd4 na nL nF
              refine store_ok (X := X.suite a ((a, oe4) :: (X.pn ++ pins))) (v := .ref a) S4 hN hi hloc rfl (fun s5 S5 => ?_) (.inr hln)
              refine wpAny_mono ((hsu a oe4 cls d (X.pn ++ pins) hz4 ⟨_, hd4⟩).run [] s5 _ H' _ S5 (hyes rfl a na)) (fun f s6 hsp => ?_) (fun _ _ z => False.elim z)
              have end_ : ∀ {σ6 : L2.St} {H6 : Hp} {Q : Shared → Prop}, Inv (X.suite a ((a, oe4) :: (X.pn ++ pins))) [] σ6 H6 s6 → (∀ s7, Inv X pins (σ6.set i none) H6 s7 → Q s7) →
                  wpAny (model X.prog X.w) X.A (do bindName X.env n .none; unbindBehindTheSuite X.env n pos') (fun _ s7 => Q s7) X.xe s6 := fun {σ6 H6 Q} S6 hq => gone_ok (S6.unsuite ok) hN hi hln hq
              cases f with
              | next =>
                obtain ⟨σ6, H6, S6, q6⟩ := hsp
                exact end_ S6 fun s7 J7 => ⟨_, _, J7, q6⟩
              | brk =>
                obtain ⟨σ6, H6, S6, q6⟩ := hsp
                exact end_ S6 fun s7 J7 => ⟨_, _, J7, q6⟩
              | cont =>
                obtain ⟨σ6, H6, S6, q6⟩ := hsp
                exact end_ S6 fun s7 J7 => ⟨_, _, J7, q6⟩
              | ret u =>
                obtain ⟨v6, σ6, H6, S6, r6, q6⟩ := hsp
                exact end_ S6 fun s7 J7 => ⟨_, _, _, J7, r6, q6⟩
        | false =>
          show wpAny _ X.A (handleBy (.ref a) X.env hds2) _ _ _
          exact ih (hno rfl)
    exact go hh w
  · cases f with
    | next =>
      obtain ⟨σ', H', J', q⟩ := hsp
      exact ho.run pins s1 σ' H' D (J'.ofTry ok) q
    | brk =>
      obtain ⟨σ', H', J', q⟩ := hsp
      exact ⟨σ', H', J'.ofTry ok, q⟩
    | cont =>
      obtain ⟨σ', H', J', q⟩ := hsp
      exact ⟨σ', H', J'.ofTry ok, q⟩
    | ret u =>
      obtain ⟨v, σ', H', J', r, q⟩ := hsp
      exact ⟨v, σ', H', J'.ofTry ok, r, q⟩
end
end Mi

set_option maxHeartbeats 4000000
/-! own errors of both families: making them, their fields -/
namespace PySem
namespace MiX
open PySem.W PySem.Calls PyProof.Rows PySem.HandSPX
/-- own classes, then a built-in one's mro -/
def refsT (tl : List Value) : List Value → Bool
  | .ref _ :: r => refsT tl r
  | l => l == tl
/-- a family of built-in errors -/
structure Fam where
  B : String
  newId : String
  initId : String
  tl : List Value
structure FamOk (f : Fam) : Prop where
  base : ExcBaseFacts f.B f.newId f.initId f.tl
  pass : ∀ self, refuseLoop self "__setattr__" f.tl = pure ()
  obj : f.tl.contains (.type "object") = true
  ne : f.tl.isEmpty = false
  ty : typeOf (.type f.B) = pure (.type "type")
  hi : handedIn (.builtin f.initId) = true
theorem refsT_cases {tl : List Value} : ∀ l : List Value, refsT tl l = true → (∃ c r, l = .ref c :: r ∧ refsT tl r = true) ∨ l = tl
  | [], e => .inr (beq_iff_eq.mp e)
  | .ref c :: r, e => .inl ⟨c, r, rfl, e⟩
  | .none :: _, e => .inr (beq_iff_eq.mp e)
  | .ellipsis :: _, e => .inr (beq_iff_eq.mp e)
  | .notImplemented :: _, e => .inr (beq_iff_eq.mp e)
  | .bool _ :: _, e => .inr (beq_iff_eq.mp e)
  | .int _ _ :: _, e => .inr (beq_iff_eq.mp e)
  | .float _ _ :: _, e => .inr (beq_iff_eq.mp e)
  | .str _ _ :: _, e => .inr (beq_iff_eq.mp e)
  | .bytes _ _ :: _, e => .inr (beq_iff_eq.mp e)
  | .type _ :: _, e => .inr (beq_iff_eq.mp e)
  | .builtin _ :: _, e => .inr (beq_iff_eq.mp e)
section
variable {f : Fam} (F : FamOk f)
include F
theorem refsT_pass (self : Value) : ∀ l : List Value, refsT f.tl l = true → refuseLoop self "__setattr__" l = pure () := by
  intro l
  induction l with
  | nil =>
    intro e
    rcases refsT_cases [] e with ⟨c, r', q, h⟩ | q
    · cases q
    · rw [q]; exact F.pass self
  | cons a r ih =>
    intro e
    rcases refsT_cases (a :: r) e with ⟨c, r', q, h⟩ | q
    · obtain ⟨rfl, rfl⟩ := List.cons.inj q
      rw [refuseLoop_ref]; exact ih h
    · rw [q]; exact F.pass self
omit F in
theorem refsT_contains (X : String) : ∀ l : List Value, refsT f.tl l = true → l.contains (.type X) = f.tl.contains (.type X) := by
  intro l
  induction l with
  | nil =>
    intro e
    rcases refsT_cases [] e with ⟨c, r', q, h⟩ | q
    · cases q
    · rw [← q]
  | cons a r ih =>
    intro e
    rcases refsT_cases (a :: r) e with ⟨c, r', q, h⟩ | q
    · obtain ⟨rfl, rfl⟩ := List.cons.inj q
      rw [List.contains_cons, ih h]; rfl
    · rw [q]
theorem refsT_ne {l : List Value} (e : refsT f.tl l = true) : l.isEmpty = false := by
  cases l with
  | nil =>
    rcases refsT_cases [] e with ⟨c, r', q, h⟩ | q
    · cases q
    · rw [q]; exact F.ne
  | cons _ _ => rfl
end
section
open Builtin Builtin.ObjectAttr
variable {prog : Program} {w : World} {A : Around} {E : Value → Shared → Prop} {R : Result → Shared → Prop} {hp : Heap} {g : Array GenState} {d : Drawn} {t : Nat} {os : OsState}
theorem exc_osaT {fm : Fam} (FF : FamOk fm) {K : W.Frag} {name : Str} {tk : Tok} {v : Value} {x C : Addr} {fv : Array Value} {cd : ClassData}
    (X : K.In hp) (hx : hp.get? x = some { cls := .ref C, data := .fields fv }) (hcd : W.clsIn K C = some cd) (hm : refsT fm.tl cd.mro = true) (hh : cd.hasDict = true) (ha : W.findIn K (.ref C) name = some none)
    (hq : ∀ h' tk' dx, (∀ b o, b ≠ x → hp.get? b = some o → h'.get? b = some o) → hp.objs.size ≤ dx → dx ≠ x → h'.get? x = some { cls := .ref C, dict := some dx, data := .fields fv } →
      h'.Ns1 dx (fun y => if y = name then some v else none) → R (.ok (.ret .none)) ⟨h', g, d, tk', os⟩) :
    codeAny (model prog w) A (.call (.builtin "object.__setattr__") ⟨[.ref x, .str name tk, v], []⟩) R ⟨hp, g, d, t, os⟩ := by
  have I : W.InstAt hp x { cls := .ref C, data := .fields fv } C none := ⟨hx, rfl, rfl, trivial⟩
  have SF := F.store_object
  have ne := refsT_ne FF hm
  have hob : cd.mro.contains (.type "object") = true := (refsT_contains "object" _ hm).trans FF.obj
  have hxs : x ≠ hp.objs.size := Nat.ne_of_lt (Heap.lt_size hx)
  have sub : W.Looks (model prog w) hp (isInstance (.ref x) (.type "object")) true := I.type.andThen (W.looks_mroIn X (by unfold W.mroIn; rw [hcd, Option.bind_some, if_neg (by rw [ne]; decide), hob]))
  refine codeAny_call_builtin SF.slot.plain SF.entry (@W.check_slot (model prog w) _ _ ⟨hp, g, d, t, os⟩ "object.__setattr__" "object" "__setattr__" (.ref x) [.str name tk, v] [] _ SF.kind SF.split sub (SF.args (.ref x) (.str name tk) v) ?_)
  have hmr : W.Looks (model prog w) hp (mroOf (.ref C)) cd.mro := (W.looks_clsIn X hcd).andThen .now
  have L3 : W.Looks (model prog w) hp (storeTaker? none) none := .now
  have hcls : W.Looks (model prog w) hp (classData C) cd := W.looks_clsIn X hcd
  rw [W.osa_eq, refuse_eq]
  refine wpAny_bind (wpAny_bind (I.type.at (wpAny_bind (hmr.at ?_))))
  rw [refsT_pass FF _ _ hm]
  refine wpAny_pure (wpAny_bind (I.type.at (wpAny_bind ((W.looks_findIn X ha).at (wpAny_bind (L3.at ?_))))))
  show wpAny _ _ (storeInOwnDict (.ref x) (.ref C) (.str name tk) name v false) _ _ _
  obtain ⟨nm, bs, mro, ns, qn, hd, sn, sb, ab, col, del⟩ := cd
  dsimp only at hh
  subst hh
  unfold storeInOwnDict ownDictForStores
  repeat (first | with_reducible refine store_in_new ?_ ?_ | with_reducible refine wpAny_loadPart_at hx ?_ | with_reducible refine hcls.at ?_ | wp_step)
  · exact ⟨_, #[], _, (Heap.get?_update_ne _ _ _ _ hxs.symm).trans (Heap.get?_push_at rfl rfl), rfl, fun e he => absurd he (by simp), fun _ => rfl⟩
  · intro h' tk' hn' hs
    have hx₁ : (hp.push { cls := .type "dict", data := .dict #[] }).get? x = some { cls := .ref C, data := .fields fv } := Heap.get?_push_of_some _ hx
    refine hq h' tk' hp.objs.size (fun b o hb ho => ?_) (Nat.le_refl _) hxs.symm ?_ hn'
    · exact (hs.2 b (Nat.ne_of_lt (Heap.lt_size ho))).trans ((Heap.get?_update_ne _ _ _ _ hb).trans (Heap.get?_push_of_some _ ho))
    · exact (hs.2 x hxs).trans (Heap.get?_update_self _ hx₁ rfl)
/-- a further field -/
theorem osa_oldT {fm : Fam} (FF : FamOk fm) {K : W.Frag} {name : Str} {tk : Tok} {v : Value} {x C dx : Addr} {fv : Array Value} {cd : ClassData} {m0 : Str → Option Value} {nl : List Str}
    (X : K.In hp) (hx : hp.get? x = some { cls := .ref C, dict := some dx, data := .fields fv }) (hns : hp.Ns1 dx m0) (hw : Within m0 nl) (hz : nl.length ≤ 1000) (hcd : W.clsIn K C = some cd) (hm : refsT fm.tl cd.mro = true) (hh : cd.hasDict = true)
    (ha : W.findIn K (.ref C) name = some none)
    (hq : ∀ h' tk', (∀ b o, b ≠ dx → hp.get? b = some o → h'.get? b = some o) → h'.Ns1 dx (fun y => if y = name then some v else m0 y) → R (.ok (.ret .none)) ⟨h', g, d, tk', os⟩) :
    codeAny (model prog w) A (.call (.builtin "object.__setattr__") ⟨[.ref x, .str name tk, v], []⟩) R ⟨hp, g, d, t, os⟩ := by
  obtain ⟨oD, esD, epD, hoD, hdD, _⟩ := hns.count hw
  have I : W.InstAt hp x { cls := .ref C, dict := some dx, data := .fields fv } C (some oD) := ⟨hx, rfl, rfl, hoD⟩
  have SF := F.store_object
  have ne := refsT_ne FF hm
  have hob : cd.mro.contains (.type "object") = true := (refsT_contains "object" _ hm).trans FF.obj
  have sub : W.Looks (model prog w) hp (isInstance (.ref x) (.type "object")) true := I.type.andThen (W.looks_mroIn X (by unfold W.mroIn; rw [hcd, Option.bind_some, if_neg (by rw [ne]; decide), hob]))
  refine codeAny_call_builtin SF.slot.plain SF.entry (@W.check_slot (model prog w) _ _ ⟨hp, g, d, t, os⟩ "object.__setattr__" "object" "__setattr__" (.ref x) [.str name tk, v] [] _ SF.kind SF.split sub (SF.args (.ref x) (.str name tk) v) ?_)
  have hmr : W.Looks (model prog w) hp (mroOf (.ref C)) cd.mro := (W.looks_clsIn X hcd).andThen .now
  have L3 : W.Looks (model prog w) hp (storeTaker? none) none := .now
  have hcls : W.Looks (model prog w) hp (classData C) cd := W.looks_clsIn X hcd
  rw [W.osa_eq, refuse_eq]
  refine wpAny_bind (wpAny_bind (I.type.at (wpAny_bind (hmr.at ?_))))
  rw [refsT_pass FF _ _ hm]
  refine wpAny_pure (wpAny_bind (I.type.at (wpAny_bind ((W.looks_findIn X ha).at (wpAny_bind (L3.at ?_))))))
  show wpAny _ _ (storeInOwnDict (.ref x) (.ref C) (.str name tk) name v false) _ _ _
  obtain ⟨nm, bs, mro, ns, qn, hd, sn, sb, ab, col, del⟩ := cd
  dsimp only at hh
  subst hh
  unfold storeInOwnDict ownDictForStores
  repeat (first | with_reducible refine OEX.store_in_old hns hw hz ?_ | with_reducible refine wpAny_loadPart_at hx ?_ | with_reducible refine hcls.at ?_ | wp_step)
  intro h' tk' hn' hs
  exact hq h' tk' (fun b o hb ho => (hs.2 b hb).trans ho) hn'
end
def famV : Fam := ⟨"ValueError", "ValueError.__new__", "ValueError.__init__", [.type "ValueError", .type "Exception", .type "BaseException", .type "object"]⟩
def famL : Fam := ⟨"LookupError", "LookupError.__new__", "LookupError.__init__", [.type "LookupError", .type "Exception", .type "BaseException", .type "object"]⟩
theorem famV_ok : FamOk famV := ⟨F.excBase_ValueError, fun self => F.store_ValueError.passes self, by decide +kernel, rfl, by kernel_rfl, by decide +kernel⟩
theorem famL_ok : FamOk famL := ⟨F.excBase_LookupError, fun self => PySem.F.store_LookupError.passes self, by decide +kernel, rfl, by kernel_rfl, by decide +kernel⟩
end MiX
end PySem

set_option maxHeartbeats 4000000
namespace Mi
open PySem PySem.Spec PyProof.Rows L2 PySem.MiX
/-- what the written part says of the class -/
structure OexF (f : Fam) (K : PySem.W.Frag) (C : Addr) : Prop where
  ok : FamOk f
  cls : ∃ nm q N bs bm sn sub ab col dd k0 k1 k2 k3 k5, K.lookup C = some (excClassObj nm q C N bs bm true sn sub ab col dd k0 k1 k2 k3 k5 f.newId) ∧ refsT f.tl bm = true
  sa : PySem.W.findIn K (.ref C) "__setattr__" = some (some (.builtin "object.__setattr__"))
  exC : PySem.W.subIn K (.ref C) (.type "BaseException") = some true
  tyC : PySem.W.typeIn K (.ref C) = some (.type "type")
  kC : PySem.W.keepIn K (.ref C) = true
section
variable {fm : Fam} {X : Cx} {pins : List (Addr × Obj)} {σ : L2.St} {H : Hp} {s : Shared} {a C dx : Addr} {f : Str} {y : V} {u : Value} {fs : List (Str × V)} {Q : Unit → Shared → Prop} {E : Value → Shared → Prop} {A : Around}
/-- self.f = y, the first one -/
theorem ostF_new (T : OexF fm X.K C) (I : Inv X pins σ H s) (e : H a = some (exo a C none)) (hno : PySem.W.findIn X.K (.ref C) f = some none) (ry : RelV y u)
    (h : ∀ dx s', H dx = none → dx ≠ a → Inv X pins σ (upd (upd H dx (exd dx [(f, y)])) a (exo a C (some dx))) s' → Q () s') : wpAny (model X.prog X.w) A (setAttr (.ref a) f u) Q E s := by
  obtain ⟨nm, q, N, bs, bm, sn, sub, ab, col, dd, k0, k1, k2, k3, k5, hC, hbm⟩ := T.cls
  have hcl : PySem.W.clsIn X.K C = some { name := nm, bases := bs, mro := .ref C :: bm, ns := N, qualname := q, hasDict := true, slotNames := sn, subclasses := sub, abstract := ab, collection := col, hasDel := false } := by unfold PySem.W.clsIn; rw [hC] <;> rfl
  obtain ⟨t1, ho⟩ := exo_at I.hok e
  obtain ⟨hp, g, d, t, os⟩ := s
  refine PySem.W.set_plain I.kIn (ox := { cls := .ref C, dict := none, data := .fields #[.ref t1, .none, .none, .none, .bool false, .none] }) (od := none) ⟨ho, rfl, rfl, trivial⟩ T.sa ?_
  refine exc_osaT T.ok I.kIn ho hcl (show refsT fm.tl (.ref C :: bm) = true from hbm) rfl hno (fun h' tk' dx k dn dne hx hn => ?_)
  have hnd : H dx = none := I.hok.fresh dn
  have nd : ∀ {b : Addr} {o : Obj}, hp.get? b = some o → b ≠ dx := fun {b o} q => Nat.ne_of_lt (Nat.lt_of_lt_of_le (Heap.lt_size q) dn)
  have na : ∀ {b : Addr}, H b = none → b ≠ a := fun {b} n z => by
    rw [z, e] at n
    cases n
  have Un1 : Un X.fs [] H (upd (upd H dx (exd dx [(f, y)])) a (exo a C (some dx))) hp h' := {
    keep := fun b o q n _ _ => k b o (na n) q
    slot := fun b o q n _ _ => ⟨o.slots, k b o (na n) q⟩
    free := fun b o q n _ => by rw [upd_ne (na n), upd_ne (nd q)]; exact n
    there := fun b o q _ => by
      by_cases hb : b = a
      · exact ⟨_, by rw [hb]; exact hx⟩
      · exact ⟨o, k b o hb q⟩
    tups := fun b xs q => by rw [upd_ne (at_ne e q exo_tup), upd_ne (ne_of_none q hnd)]; exact q
    frzs := fun b o v q => by rw [upd_ne (at_ne e q exo_frz), upd_ne (ne_of_none q hnd)]; exact q
    tbls := fun b ps q => ⟨#[], by rw [upd_ne (at_ne e q exo_tbl), upd_ne (ne_of_none q hnd), q]; simp⟩ }
  refine h dx _ hnd dne (I.un (t' := tk') Un1 fun b o q => ?_)
  by_cases hb : b = a
  · subst hb
    rw [upd_same] at q
    cases q
    exact exo_ok hx
  · rw [upd_ne hb] at q
    by_cases hd : b = dx
    · subst hd
      rw [upd_same] at q
      cases q
      exact exd_ok hn (relO_put (fs := []) ry fun g => True.intro)
    · rw [upd_ne hd] at q
      exact (I.hok b o q).stay (fun c v hc z => k c v (by
          rcases hc with hc | hc
          · rw [hc]
            exact hb
          · exact at_ne e hc exo_own) z)
        (fun c hc => by rw [upd_ne (at_ne e hc exo_own), upd_ne (ne_of_none hc hnd)]; exact hc) (fun c xs hc => by rw [upd_ne (at_ne e hc exo_tup), upd_ne (ne_of_none hc hnd)]; exact hc)
/-- self.f = y, a further one -/
theorem ostF_old (T : OexF fm X.K C) (I : Inv X pins σ H s) (e : H a = some (exo a C (some dx))) (ed : H dx = some (exd dx fs)) (hl : fs.length ≤ 900) (hno : PySem.W.findIn X.K (.ref C) f = some none) (ry : RelV y u)
    (h : ∀ s', Inv X pins σ (upd H dx (exd dx ((f, y) :: fs))) s' → Q () s') : wpAny (model X.prog X.w) A (setAttr (.ref a) f u) Q E s := by
  obtain ⟨nm, q, N, bs, bm, sn, sub, ab, col, dd, k0, k1, k2, k3, k5, hC, hbm⟩ := T.cls
  have hcl : PySem.W.clsIn X.K C = some { name := nm, bases := bs, mro := .ref C :: bm, ns := N, qualname := q, hasDict := true, slotNames := sn, subclasses := sub, abstract := ab, collection := col, hasDel := false } := by unfold PySem.W.clsIn; rw [hC] <;> rfl
  obtain ⟨t1, ho⟩ := exo_at I.hok e
  obtain ⟨mA, hns, rel⟩ := exd_at I.hok ed
  have hw := within_of rel
  obtain ⟨hp, g, d, t, os⟩ := s
  obtain ⟨oD, _, _, hoD, _, _⟩ := hns.count hw
  refine PySem.W.set_plain I.kIn (ox := { cls := .ref C, dict := some dx, data := .fields #[.ref t1, .none, .none, .none, .bool false, .none] }) (od := some oD) ⟨ho, rfl, rfl, hoD⟩ T.sa ?_
  refine osa_oldT T.ok I.kIn ho hns hw (by rw [List.length_map]; omega) hcl (show refsT fm.tl (.ref C :: bm) = true from hbm) rfl hno (fun h' tk' k hn => ?_)
  have hd : ∃ o, h'.get? dx = some o := by
    obtain ⟨o, _, _, e', _⟩ := hn
    exact ⟨o, e'⟩
  exact h _ (I.write (t' := tk') (x := dx) (e := dx) (o := exd dx ((f, y) :: fs)) (by rw [ed]; exact True.intro) (.inl rfl) k hd (exd_ok hn (relO_put ry rel)))
/-- the base's own __init__: nothing of it is told -/
theorem oinitF_ok {us : List Value} {Q : Value → Shared → Prop} (T : OexF fm X.K C) (I : Inv X pins σ H s) (e : H a = some (exo a C none)) (hl : us.length ≤ sizeLine) (h : ∀ s', Inv X pins σ H s' → Q .none s') :
    wpAny (model X.prog X.w) A (call (.builtin fm.initId) (.ref a :: us)) Q E s := by
  obtain ⟨nm, q, N, bs, bm, sn, sub, ab, col, dd, k0, k1, k2, k3, k5, hC, hbm⟩ := T.cls
  obtain ⟨t1, ho⟩ := exo_at I.hok e
  obtain ⟨hp, g, d, t, os⟩ := s
  refine wpAny_call (PySem.HandSPX.init_base T.ok.base (fun Y => refsT_contains Y bm hbm) (I.kIn _ _ hC) ho hl fun h' t2 k hx => ?_)
  have J := I.write (t' := t) (x := a) (e := a) (o := exo a C none) (by rw [e]; exact True.intro) (.inl rfl) k ⟨_, hx⟩ (exo_ok hx)
  have eu : upd H a (exo a C none) = H := by
    funext b
    by_cases hb : b = a
    · rw [hb, upd_same, e]
    · rw [upd_ne hb]
  rw [eu] at J
  exact h _ J
end
/-- Base.__init__(self, ..) -/
def tCeI (fm : Fam) (K : PySem.W.Frag) (ta : TA) : TE := fun σ H Q => ta σ H fun vs H1 => ∃ (a C : Addr) (ws : List V), vs = .ref a :: ws ∧ ws.length ≤ 1000 ∧ OexF fm K C ∧ H1 a = some (exo a C none) ∧ Q .non H1
/-- self.f = e -/
def tOsF (fm : Fam) (K : PySem.W.Frag) (f : Str) (to te : TE) : TS := fun D σ H => te σ H fun y H1 => to σ H1 fun x H2 => ∃ a C : Addr, x = .ref a ∧ OexF fm K C ∧ PySem.W.findIn K (.ref C) f = some none ∧
  ((H2 a = some (exo a C none) ∧ ∀ dx, H2 dx = none → dx ≠ a → D.nx σ (upd (upd H2 dx (exd dx [(f, y)])) a (exo a C (some dx)))) ∨
    ∃ (dx : Addr) (fs : List (Str × V)), H2 a = some (exo a C (some dx)) ∧ H2 dx = some (exd dx fs) ∧ fs.length ≤ 900 ∧ D.nx σ (upd H2 dx (exd dx ((f, y) :: fs))))
section
variable {fm : Fam} {X : Cx} {o e : Expr} {es : List Expr} {to te : TE} {ta : TA} {f : Str} {p p' p1 p2 pos : Pos}
theorem pe_ceinit {B : Str} {bC : Addr} (hg : Gl X B) (hm : X.mg B = some (.ref bC)) (hdb : (B == ("__debug__" : Str)) = false) (FF : FamOk fm) (hga : PySem.W.specialIn X.K (.ref bC) "__getattribute__" = some (some (.builtin "type.__getattribute__")))
    (hrd : PySem.W.readsIn X.K bC (.type "type") = true) (hfc : PySem.W.findCls X.K (.ref bC) (.type "type") "__init__" = some (.val (.builtin fm.initId))) (ha : PA X (e :: es) ta) (hline : (p2.endLine == pos.line) = true)
    (hfew : ((backTo pos (starEach (e :: es) X.env)).all (fun x => !x.1) && (backToKw pos (keywordEach [] X.env)).all (fun x => x.1.isSome)
      && decide ((e :: es).length + ([] : List Keyword).length + (if ([] : List Keyword).isEmpty then 0 else 1) < 30)) = true := by rfl)
    (he : starEach (e :: es) X.env = (false, eval e X.env) :: starEach es X.env := by rfl) (hpl : (backTo pos (starEach es X.env)).any (·.1) = false := by rfl) :
    PE X (.Call (.Attribute (.Name B p1) "__init__" p2) (e :: es) [] pos) (tCeI fm X.K ta) := by
  refine ⟨fun pins s σ H Q I h => ?_⟩
  have hbase : attributeBase (.Name B p1) "__init__" X.env (eval (.Name B p1) X.env) = eval (.Name B p1) X.env := rfl
  rw [arm_eval_Call, hbase]
  refine wpAny_bind (ld_glob I hg hm ?_ hdb)
  refine wpAny_bind (wpAny_standAt ?_)
  have hform : methodCallForm ((e :: es).length + ([] : List Keyword).length) (backTo pos (starEach (e :: es) X.env)) (backToKw pos (keywordEach [] X.env)) = true := hfew
  have hpos : methodCallPos true (.Name B p1) X.env p2 pos = pure pos := by unfold methodCallPos; simp [hline]
  unfold methodCall
  rw [hform]
  refine wpAny_bind (wpAny_holding ?_)
  refine PySem.W.method_cls (s := s) I.kIn hga ?_
  refine PySem.W.cls_value (s := s) I.kIn hrd hfc FF.hi ?_
  refine wpAny_bind (wpAny_of_eq hpos ?_)
  show wpAny _ _ (callWith pos (Value.builtin fm.initId) [] (backTo pos (starEach (e :: es) X.env)) []) _ _ _
  refine PyProof.Rows.callWith_method1 (thn (ha.run pos pins _ σ H _ (I.tok _) h) fun us s1 ⟨vs, H1, I1, r1, a, C, ws, ev, hl, T, ea, q⟩ => ?_) he hpl
  subst ev
  cases r1 with
  | @cons _ u0 _ ur ra rw' =>
    obtain rfl : u0 = Value.ref a := ra
    have hlen : ur.length ≤ sizeLine := by
      rw [← Paired.length rw', sizeLine_eq]
      omega
    exact oinitF_ok T I1 ea hlen fun s' J => ⟨.non, H1, J, rfl, q⟩
theorem ps_osF (ho : PE X o to) (he : PE X e te) (hs : swapsWith e (some (.Attribute o f p')) pos.line X.env = pure false) : PS X (.Assign [.Attribute o f p'] e pos) (tOsF fm X.K f to te) := by
  refine ⟨fun pins s σ H D I h => ?_⟩
  refine plainObj_wpAny_Assign_Attribute (thn (he.run pins s σ H _ I h) fun v s1 ⟨y, H1, I1, r1, q1⟩ => thn (ho.run pins s1 σ H1 _ I1 q1) fun u s2 ⟨x, H2, I2, r2, a, C, ex, T, hno, q⟩ => ?_) hs
  subst ex
  obtain rfl : u = Value.ref a := r2
  rcases q with ⟨ea, q⟩ | ⟨dx, fs, ea, ed, hl, q⟩
  · exact ostF_new T I2 ea hno r1 fun dx s' n ne J => ⟨σ, _, J, q dx n ne⟩
  · exact ostF_old T I2 ea ed hl hno r1 fun s' J => ⟨σ, _, J, q⟩
theorem pmk_oeF {CX : CXT} {x : Str} {C fI : Addr} {k : Nat} {fd : FuncData} {ps : List Str} {sp : Sp} {ds : List Value} {dvs : List V} (T : OexF fm X.K C) (iC : PySem.W.findIn X.K (.ref C) "__init__" = some (some (.ref fI))) (tI : PySem.W.typeIn X.K (.ref fI) = some (.type "function"))
    (F1 : FnOk X.prog X.w X.K X.mg X.base CX k fI fd ps sp) (hr : Room (k + 1) X.A) (hb : Binds X.K fd ps ds) (hd : Vals dvs ds) (hx : Passes CX X (fun _ _ _ => False)) (hg : Gl X x) (hm : X.mg x = some (.ref C)) (ha : PA X (e :: es) ta)
    (hdb : (x == ("__debug__" : Str)) = false) (he : starEach (e :: es) X.env = (false, eval e X.env) :: starEach es X.env := by rfl) (hpl : (backTo pos (starEach es X.env)).any (·.1) = false := by rfl) :
    PMk X (.Call (.Name x p) (e :: es) [] pos) (tMkO C sp dvs ta) := by
  intro pins s σ H Q I h
  obtain ⟨nm, q, N, bs, bm, sn, sub, ab, col, dd, k0, k1, k2, k3, k5, hC, hbm⟩ := T.cls
  refine wpAny_Call_Name_kw (ld_glob I hg hm ?_ hdb)
  refine PySem.W.callWith_K (h₀ := X.base) I.ok.mod.kin T.kC (thn (ha.run pos pins s σ H _ I h) fun us s1 ⟨vs, H1, I1, r1, hz, q1⟩ => ⟨I1.kIn, ?_⟩) he hpl
  show wpAny _ _ (call (.ref C) us) _ _ _
  obtain ⟨hp, g, dr, tk, os⟩ := s1
  have hsz : hp.objs.size ≤ hp.objs.size + 1 := Nat.le_succ _
  have hn : H1 (hp.objs.size + 1) = none := I1.hok.fresh hsz
  have hq := q1 (hp.objs.size + 1) hn
  have kk : ∀ b o, hp.get? b = some o → ((hp.push (PySem.W.kdv_tup us)).push (PySem.HandSPX.excO C hp.objs.size)).get? b = some o := fun b o e => Heap.get?_push_of_some _ (Heap.get?_push_of_some _ e)
  have hget : ((hp.push (PySem.W.kdv_tup us)).push (PySem.HandSPX.excO C hp.objs.size)).get? (hp.objs.size + 1) = some (PySem.HandSPX.excO C hp.objs.size) := by heap_get
  have I2 : Inv X pins σ (upd H1 (hp.objs.size + 1) (exo (hp.objs.size + 1) C none)) ⟨(hp.push (PySem.W.kdv_tup us)).push (PySem.HandSPX.excO C hp.objs.size), g, dr, tk, os⟩ :=
    I1.laid (t' := tk) (a := hp.objs.size + 1) (o := exo (hp.objs.size + 1) C none) (h' := (hp.push (PySem.W.kdv_tup us)).push (PySem.HandSPX.excO C hp.objs.size)) kk hsz (exo_ok hget)
  have r2 : Vals (V.ref (hp.objs.size + 1) :: (vs ++ dvs)) (Value.ref (hp.objs.size + 1) :: (us ++ ds)) := .cons rfl (r1.append hd)
  have hl : (Value.ref (hp.objs.size + 1) :: us ++ ds).length = ps.length := by
    have e := r2.length
    rw [F1.len _ _ _ _ hq] at e
    exact e.symm
  have hus : us.length ≤ sizeLine := by
    rw [← Paired.length r1, sizeLine_eq]
    omega
  refine wpAny_call (PySem.HandSPX.call_own T.ok.base (fun Y => refsT_contains Y bm hbm) (I1.kIn _ _ hC) (PySem.W.looks_findIn I1.kIn iC) (fun self => PySem.W.bind_fn I1.kIn self tI) hus
    (codeAny_mono (F1.run _ X.stack _ _ ⟨Value.ref (hp.objs.size + 1) :: us, []⟩ (Value.ref (hp.objs.size + 1) :: (us ++ ds)) _ _ (fun _ _ _ => False) (hr.make C us []) (I2.env0.make C us []) (hb _ (Value.ref (hp.objs.size + 1) :: us) I2.kIn hl) r2 hq) fun r s' hq' => ?_))
  cases r with
  | error er => exact hx pins σ _ _ er s' I2 hq'
  | ok fl =>
    cases fl with
    | ret u =>
      obtain ⟨v, H2, os2, bare2, un2, hok2, rv, ev, d, fs, ea, ed, hd1, q2⟩ := hq'
      subst ev
      obtain ⟨h2, g2, d2, t2, os'⟩ := s'
      exact ⟨rv, mk_end (raises_own T.exC T.tyC) I1 hsz kk un2 hok2 os2 bare2 ea ed hd1 q2⟩
    | next => exact False.elim hq'
    | brk => exact False.elim hq'
    | cont => exact False.elim hq'
end
end Mi

set_option maxHeartbeats 4000000
namespace Mi
open PySem PySem.Spec PyProof.Rows L2 PySem.MiX
/-! ### __init__ of an own error: Base.__init__(self, ".."), then self.f = f for each field -/
def asgsB : List Str → List Stmt → Bool
  | [], sts => match sts with
    | [] => true
    | _ => false
  | f :: fl, sts => match sts with
    | .Assign [.Attribute (.Name s _) f' _] (.Name p _) _ :: r => s == ("self" : Str) && decide (f' = f) && decide (p = f) && asgsB fl r
    | _ => false
def chkInit (B : Str) (fl : List Str) (st : Stmt) : Bool := decide ((defScope st).kind = .function) && !(defScope st).isCoroutine && !(defScope st).isGenerator && decide ((("self" : Str) :: fl).Nodup) && decide (fl.length ≤ 800) &&
  (("self" : Str) :: fl).all (fun x => decide ((defScope st).names.lookup x = some .local) && !(x == ("__debug__" : Str)) && !(x == ("__classdict__" : Str))) && (defScope st).names.all (fun y => decide (y.2 ≠ .free)) && decide ((defScope st).names.lookup B = some .globalImplicit) && !(B == ("__debug__" : Str)) && (match defBody st with
    | .Expr (.Call (.Attribute (.Name b _) m ap) [.Name s _, .Constant (.str _) _ _] [] cp) _ :: r => (ap.endLine == cp.line) && decide (b = B) && decide (m = ("__init__" : Str)) && s == ("self" : Str) && asgsB fl r
    | _ => false)
/-- what it leaves -/
def spI (fm : Fam) (K : PySem.W.Frag) (C : Addr) (fl : List Str) : Sp := fun vs H Q _ => ∃ (a : Addr) (ws : List V), vs = .ref a :: ws ∧ ws.length = fl.length ∧ H a = some (exo a C none) ∧
  ∀ H2 d, H d = none → d ≠ a → H2 a = some (exo a C (some d)) → H2 d = some (exd d (fl.zip ws).reverse) → (∀ b, b ≠ a → b ≠ d → H2 b = H b) → Q .non H2
section
variable {fm : Fam} {X : Cx}
/-- what the stores make, from the i-th parameter on, behind a first one -/
theorem asgs_ok {C a : Addr} (T : OexF fm X.K C) : ∀ (fl : List Str) (sts : List Stmt) (i : Nat), asgsB fl sts = true →
    (∀ j f, fl[j]? = some f → X.N[i + j]? = some f ∧ Vis X.env.scope f ∧ (f == ("__debug__" : Str)) = false ∧ (f == ("__classdict__" : Str)) = false ∧ PySem.W.findIn X.K (.ref C) f = some none) →
    (X.N[0]? = some ("self" : Str) ∧ Vis X.env.scope ("self" : Str)) →
    ∃ t, PSs X sts t ∧ ∀ (D : Ends) (σ : L2.St) (H : Hp) (d : Addr) (acc : List (Str × V)) (ws : List V), σ[0]? = some (some (.ref a)) → ws.length = fl.length → (∀ j v, ws[j]? = some v → σ[i + j]? = some (some v)) → H a = some (exo a C (some d)) → H d = some (exd d acc) → acc.length + fl.length ≤ 800 → d ≠ a →
      (∀ H2, H2 a = some (exo a C (some d)) → H2 d = some (exd d ((fl.zip ws).reverse ++ acc)) → (∀ b, b ≠ a → b ≠ d → H2 b = H b) → D.nx σ H2) → t D σ H
  | [], sts, i, h, hN, hS => by
    unfold asgsB at h
    split at h
    · refine ⟨_, pss_nil, fun D σ H d acc ws e0 el ew ea ed hl hd q => q H ea (by simpa using ed) fun b _ _ => rfl⟩
    · cases h
  | f :: fl, sts, i, h, hN, hS => by
    unfold asgsB at h
    split at h
    · rename_i s p1 f' p2 p p3 pos r
      simp only [Bool.and_eq_true, beq_iff_eq, decide_eq_true_eq] at h
      obtain ⟨⟨⟨e1, e2⟩, e3⟩, h4⟩ := h
      subst e1
      obtain rfl := e2.symm
      obtain rfl := e3.symm
      obtain ⟨t, ht, ft⟩ := asgs_ok (a := a) T fl r (i + 1) h4 (fun j g e => by
        have := hN (j + 1) g (by simpa using e)
        rw [show i + (j + 1) = i + 1 + j by omega] at this
        exact this) hS
      obtain ⟨n1, n2, n3, n4, n5⟩ := hN 0 f rfl
      refine ⟨_, pss_cons (ps_osF (fm := fm) (pe_var hS.1 hS.2) (pe_var n1 n2 n3 n4) rfl) ht, fun D σ H d acc ws e0 el ew ea ed hl hd q => ?_⟩
      cases ws with
      | nil => cases el
      | cons w ws =>
        refine ⟨w, ew 0 w rfl, .ref a, e0, a, C, rfl, T, n5, .inr ⟨d, acc, ea, ed, by omega, ?_⟩⟩
        have lc : (f :: fl).length = fl.length + 1 := rfl
        refine ft D σ _ d ((f, w) :: acc) ws e0 (by simpa using el) (fun j v e => by rw [show i + 1 + j = i + (j + 1) by omega]; exact ew (j + 1) v (by simpa using e)) (by rw [upd_ne (Ne.symm hd)]; exact ea) upd_same (by simp only [List.length_cons]; omega) hd fun H2 h1 h2 h3 => ?_
        refine q H2 h1 ?_ fun b b1 b2 => by rw [h3 b b1 b2, upd_ne b2]
        rw [h2]; simp
    · cases h
end
section
variable {P : Program} {w : World} {K : PySem.W.Frag} {mg : Str → Option Value} {base : Heap}
theorem init_ok {fm : Fam} {B qual : Str} {bC C fI : Addr} {fl : List Str} {st : Stmt} {fd : FuncData} (h : chkInit B fl st = true) (F : Fun K "__init__" qual st fI fd) (T : OexF fm K C) (hm : mg B = some (.ref bC)) (hfl : fl ≠ [])
    (hga : PySem.W.specialIn K (.ref bC) "__getattribute__" = some (some (.builtin "type.__getattribute__"))) (hrd : PySem.W.readsIn K bC (.type "type") = true) (hfc : PySem.W.findCls K (.ref bC) (.type "type") "__init__" = some (.val (.builtin fm.initId)))
    (hno : ∀ f ∈ fl, PySem.W.findIn K (.ref C) f = some none) : FnOk P w K mg base (L2.CX P w) 1 fI fd ("self" :: fl) (spI fm K C fl) := by
  unfold chkInit at h
  simp only [Bool.and_eq_true, Bool.not_eq_true', decide_eq_true_eq] at h
  obtain ⟨⟨⟨⟨⟨⟨⟨⟨⟨h1, h2⟩, h3⟩, h4⟩, h5⟩, h6⟩, h7⟩, h8⟩, h9⟩, h10⟩ := h
  have par : ∀ x ∈ (("self" : Str) :: fl), (defScope st).names.lookup x = some .local ∧ (x == ("__debug__" : Str)) = false ∧ (x == ("__classdict__" : Str)) = false := fun x hx => by
    have z := List.all_eq_true.mp h6 x hx
    simp only [Bool.and_eq_true, Bool.not_eq_true', decide_eq_true_eq] at z
    exact ⟨z.1.1, z.1.2, z.2⟩
  have S : FnScope ("self" :: fl) ("self" :: fl) (defScope st) := ⟨h1, h2, h3, h4, by simp, fun x hx => .inl (par x hx).1, fun y hy => of_decide_eq_true (List.all_eq_true.mp h7 y hy)⟩
  refine F.okX S (fun vs H Q E h => ?_) fun cdv A outer s H vs Q E hr h => ?_
  · obtain ⟨a, ws, rfl, el, _⟩ := h
    simp [el]
  · obtain ⟨a, ws, rfl, el, ea, q⟩ := h
    have vis : ∀ x ∈ (("self" : Str) :: fl), Vis (defScope st) x := fun x hx => .inl (par x hx).1
    split at h10
    · rename_i b p1 m p2 sn p3 ms k p4 p5 p6 r hb
      simp only [Bool.and_eq_true, beq_iff_eq, decide_eq_true_eq] at h10
      obtain ⟨⟨⟨⟨hln, rfl⟩, rfl⟩, rfl⟩, h13⟩ := h10
      rw [hb]
      cases fl with
      | nil => exact (hfl rfl).elim
      | cons f fl =>
        unfold asgsB at h13
        split at h13
        · rename_i s' q1 f' q2 p q3 q4 r'
          simp only [Bool.and_eq_true, beq_iff_eq, decide_eq_true_eq] at h13
          obtain ⟨⟨⟨e1, e2⟩, e3⟩, h14⟩ := h13
          subst e1
          obtain rfl := e2.symm
          obtain rfl := e3.symm
          have hS : (cxOf (L2.CX P w) P w K mg base ("self" :: f :: fl) qual (defScope st) fI cdv A outer s H E).N[0]? = some ("self" : Str) ∧ Vis (cxOf (L2.CX P w) P w K mg base ("self" :: f :: fl) qual (defScope st) fI cdv A outer s H E).env.scope ("self" : Str) := ⟨rfl, vis _ (.head _)⟩
          obtain ⟨t, ht, ft⟩ := asgs_ok (a := a) (X := cxOf (L2.CX P w) P w K mg base ("self" :: f :: fl) qual (defScope st) fI cdv A outer s H E) T fl r' 2 h14 (fun j g e => by
            have hm' : g ∈ fl := List.mem_of_getElem? e
            have z := par g (.tail _ (.tail _ hm'))
            refine ⟨?_, .inl z.1, z.2.1, z.2.2, hno g (.tail _ hm')⟩
            show ((("self" : Str) :: f :: fl))[2 + j]? = some g
            rw [show 2 + j = j + 1 + 1 by omega]
            simpa using e) hS
          have zf := par f (.tail _ (.head _))
          refine ⟨_, pss_cons (ps_expr (pe_ceinit (fm := fm) (X := cxOf (L2.CX P w) P w K mg base ("self" :: f :: fl) qual (defScope st) fI cdv A outer s H E) h8 hm h9 T.ok hga hrd hfc (pa_cons (pe_var hS.1 hS.2) (pa_cons pe_str pa_nil)) (by simpa using hln)) rfl)
            (pss_cons (ps_osF (fm := fm) (pe_var hS.1 hS.2) (pe_var (i := 1) rfl (.inl zf.1) zf.2.1 zf.2.2) rfl) ht), ?_⟩
          cases ws with
          | nil => cases el
          | cons w ws =>
            refine ⟨.ref a, rfl, a, C, [.str _], rfl, by simp, T, ea, ?_⟩
            refine ⟨w, rfl, .ref a, rfl, a, C, rfl, T, hno f (.head _), .inl ⟨ea, fun dx hd1 hd2 => ?_⟩⟩
            refine ft _ _ _ dx [(f, w)] ws rfl (by simpa using el) (fun j v e => ?_) upd_same (by rw [upd_ne hd2, upd_same]) (by simp only [List.length_cons, List.length_nil] at h5 ⊢; omega) hd2 fun H2 g1 g2 g3 => ?_
            · show (L2.start ("self" :: f :: fl) (V.ref a :: w :: ws))[2 + j]? = _
              unfold L2.start
              have hj : j < ws.length := (List.getElem?_eq_some_iff.mp e).1
              rw [List.getElem?_append_left (by simp; omega), List.getElem?_map, show 2 + j = j + 1 + 1 by omega]
              simp [e]
            · refine q H2 dx hd1 hd2 g1 ?_ fun b b1 b2 => by rw [g3 b b1 b2, upd_ne b1, upd_ne b2]
              rw [g2]; simp
        · cases h13
    · cases h10
end
end Mi

/-! Tables whose keys are tuples, wherever the keys stand. -/
namespace Mi
open PySem PySem.Spec PyProof.Rows L2
abbrev PR : (List Key × Addr × V) → (List Key × Addr × Value) → Prop := fun p q => p.1 = q.1 ∧ p.2.1 = q.2.1 ∧ RelV p.2.2 q.2.2
def getH (xs : List (List Key × Addr × V)) (k : List Key) : Option V := (xs.find? fun x => decide (x.1 = k)).map (·.2.2)
def setH (xs : List (List Key × Addr × V)) (k : List Key) (b : Addr) (v : V) : List (List Key × Addr × V) := if (getH xs k).isSome = true then xs.map (fun x => if x.1 = k then (x.1, x.2.1, v) else x) else xs ++ [(k, b, v)]
def delH (xs : List (List Key × Addr × V)) (k : List Key) : List (List Key × Addr × V) := xs.filter fun x => decide (x.1 ≠ k)
theorem pr_get (k : List Key) : ∀ {xs : List (List Key × Addr × V)} {ys : List (List Key × Addr × Value)}, PySem.Paired PR xs ys → RelO (getH xs k) ((atKey ys k).map (·.2))
  | _, _, .nil => True.intro
  | _, _, @PySem.Paired.cons _ _ _ p q ps qs h t => by
    obtain ⟨h1, h2, h3⟩ := h
    by_cases e : p.1 = k
    · have e' : q.1 = k := h1.symm.trans e
      have a1 : getH (p :: ps) k = some p.2.2 := by simp [getH, List.find?_cons, e]
      have a2 : atKey (q :: qs) k = some q.2 := by simp [atKey, List.find?_cons, e']
      rw [a1, a2]; exact h3
    · have e' : ¬ q.1 = k := fun z => e (h1.trans z)
      have a1 : getH (p :: ps) k = getH ps k := by simp [getH, List.find?_cons, e]
      have a2 : atKey (q :: qs) k = atKey qs k := by simp [atKey, List.find?_cons, e']
      rw [a1, a2]; exact pr_get k t
theorem pr_map (k : List Key) {v : V} {u : Value} (rv : RelV v u) : ∀ {xs : List (List Key × Addr × V)} {ys : List (List Key × Addr × Value)}, PySem.Paired PR xs ys → PySem.Paired PR (xs.map fun x => if x.1 = k then (x.1, x.2.1, v) else x) (ys.map (putAt k u))
  | _, _, .nil => .nil
  | _, _, @PySem.Paired.cons _ _ _ p q ps qs h t => by
    rw [List.map_cons, List.map_cons]
    refine .cons ?_ (pr_map k rv t)
    obtain ⟨h1, h2, h3⟩ := h
    unfold putAt
    by_cases e : p.1 = k
    · rw [if_pos e, if_pos (h1.symm.trans e)]; exact ⟨h1, h2, rv⟩
    · rw [if_neg e, if_neg (fun z => e (h1.trans z))]; exact ⟨h1, h2, h3⟩
theorem pr_snoc {p : List Key × Addr × V} {q : List Key × Addr × Value} (h : PR p q) : ∀ {xs : List (List Key × Addr × V)} {ys : List (List Key × Addr × Value)}, PySem.Paired PR xs ys → PySem.Paired PR (xs ++ [p]) (ys ++ [q])
  | _, _, .nil => .cons h .nil
  | _, _, .cons r t => .cons r (pr_snoc h t)
theorem pr_isSome {xs : List (List Key × Addr × V)} {ys : List (List Key × Addr × Value)} (r : PySem.Paired PR xs ys) (k : List Key) : (getH xs k).isSome = (atKey ys k).isSome := by
  have := (pr_get k r).isSome_eq
  rw [Option.isSome_map] at this
  exact this
theorem pr_set (k : List Key) {b : Addr} {v : V} {u : Value} (rv : RelV v u) {xs : List (List Key × Addr × V)} {ys : List (List Key × Addr × Value)} (r : PySem.Paired PR xs ys) : PySem.Paired PR (setH xs k b v) (storedH ys k b u) := by
  unfold setH storedH
  rw [pr_isSome r k]
  by_cases q : (atKey ys k).isSome = true
  · rw [if_pos q, if_pos q]; exact pr_map k rv r
  · rw [if_neg q, if_neg q]; exact pr_snoc ⟨rfl, rfl, rv⟩ r
theorem pr_del (k : List Key) : ∀ {xs : List (List Key × Addr × V)} {ys : List (List Key × Addr × Value)}, PySem.Paired PR xs ys → PySem.Paired PR (delH xs k) (withoutH ys k)
  | _, _, .nil => .nil
  | _, _, @PySem.Paired.cons _ _ _ p q ps qs h t => by
    unfold delH withoutH
    by_cases e : p.1 = k
    · rw [List.filter_cons_of_neg (by simp [e]), List.filter_cons_of_neg (by simp [h.1.symm.trans e])]
      exact pr_del k t
    · rw [List.filter_cons_of_pos (by simp [e]), List.filter_cons_of_pos (by have ne : ¬ q.1 = k := fun z => e (h.1.trans z); simp [ne])]
      exact .cons h (pr_del k t)
theorem setH_len (xs : List (List Key × Addr × V)) (k : List Key) (b : Addr) (v : V) : (setH xs k b v).length ≤ xs.length + 1 := by
  unfold setH
  split
  · simp
  · simp
theorem pr_len {xs : List (List Key × Addr × V)} {ys : List (List Key × Addr × Value)} (r : PySem.Paired PR xs ys) : xs.length = ys.length := PySem.Paired.length r
section
variable {X : Cx} {pins : List (Addr × Obj)} {σ : L2.St} {H : Hp} {s : Shared} {a b : Addr} {xs : List (List Key × Addr × V)} {ks : List Key} {A : Around} {E : Value → Shared → Prop}
theorem key_sq (I : Inv X pins σ H s) (h : SqT X.K H b (ks.map kV)) : (tupleKind (mixKind X.prog X.w)).is s.heap ks b := by
  obtain ⟨its, r, ⟨o, h1, h2, n, h3⟩, _⟩ := I.tuple h
  exact ⟨o, its.toArray, n, h1, h2, h3, by simpa using items_are r⟩
/-- the keys of a table stand -/
def KeysAt (K : PySem.W.Frag) (H : Hp) (xs : List (List Key × Addr × V)) : Prop := ∀ x ∈ xs, SqT K H x.2.1 (x.1.map kV)
theorem pr_all {P : List Key → Addr → Prop} : ∀ {xs : List (List Key × Addr × V)} {ys : List (List Key × Addr × Value)}, PySem.Paired PR xs ys → (∀ x ∈ xs, P x.1 x.2.1) → ∀ y ∈ ys, P y.1 y.2.1
  | _, _, .nil, _, y, hy => nomatch hy
  | _, _, @PySem.Paired.cons _ _ _ p q ps qs h t, f, y, hy => by
    rcases List.mem_cons.mp hy with e | hy
    · rw [e, ← h.1, ← h.2.1]; exact f p List.mem_cons_self
    · exact pr_all t (fun x hx => f x (List.mem_cons_of_mem _ hx)) y hy
theorem dto_of (I : Inv X pins σ H s) (e : H a = some (DTo (X.prog, X.w) a xs)) (hk : KeysAt X.K H xs) : xs.length ≤ sizeLine ∧ (a == sysModules) = false ∧
    ∃ ys, PySem.Paired PR xs ys ∧ s.heap.DictOfH (tupleKind (mixKind X.prog X.w)) a ys := by
  obtain ⟨⟨z, y, ys, r, o, es, ep, h1, h2, h3, h4, h5⟩, _, _⟩ := (show ObjOk X.prog X.w H s.heap a (DTo (X.prog, X.w) a xs) from I.hok a _ e)
  exact ⟨z, y, ys, r, o, es, ep, h1, h2, h3, h4, pr_all (P := fun k b => (tupleKind (mixKind X.prog X.w)).is s.heap k b) r fun x hx => key_sq I (hk x hx), h5⟩
theorem dto_new {P : Program} {w : World} {H' : Hp} {h' : Heap} {ys : List (List Key × Addr × Value)} (z : xs.length ≤ sizeLine) (hd : (a == sysModules) = false) (r : PySem.Paired PR xs ys) (dd : h'.DictOfH (tupleKind (mixKind P w)) a ys) :
    ObjOk P w H' h' a (DTo (P, w) a xs) := by
  obtain ⟨o, es, ep, h1, h2, h3, h4, _, h5⟩ := dd
  refine ⟨⟨z, hd, ys, r, o, es, ep, h1, h2, h3, h4, h5⟩, ⟨o, h1⟩, ?_⟩
  rintro g1 g2 ⟨z', hd', ys', r', o', es', ep', e1, e2, e3, e4, e5⟩ k
  exact ⟨z', hd', ys', r', o', es', ep', k _ e1, e2, e3, e4, e5⟩
theorem dto_empty {P : Program} {w : World} {H : Hp} (h : Heap) (hb : sysModules < h.objs.size) : ObjOk P w H (h.push { cls := .type "dict", data := .dict #[] }) h.objs.size (DTo (P, w) h.objs.size []) :=
  dto_new (Nat.zero_le _) (beq_eq_false_iff_ne.mpr (Ne.symm (Nat.ne_of_lt hb))) .nil (Heap.DictOfH.new h)
theorem dto_noDict (I : Inv X pins σ H s) (e : H a = some (DTo (X.prog, X.w) a xs)) : s.TypeIs (.ref a) "dict" ∧ ∀ b, Value.ref a = .ref b → ∃ ob, s.heap.get? b = some ob ∧ ob.dict = none := by
  obtain ⟨⟨z, y, ys, r, o, es, ep, h1, h2, h3, h4, h5⟩, _, _⟩ := (show ObjOk X.prog X.w H s.heap a (DTo (X.prog, X.w) a xs) from I.hok a _ e)
  exact ⟨⟨o, h1, h2.1⟩, fun b q => by cases q; exact ⟨o, h1, h2.2.1⟩⟩
end
/-- what the table at a says of the key y -/
def TGet (X : Cx) (H : Hp) (a : Addr) (y : V) (o : Option V) : Prop :=
  (∃ kvs k, H a = some (.dK kvs) ∧ y = kV k ∧ o = valV kvs k) ∨ ∃ xs k b, H a = some (DTo (X.prog, X.w) a xs) ∧ KeysAt X.K H xs ∧ y = .ref b ∧ SqT X.K H b (k.map kV) ∧ o = getH xs k
/-- the heap behind a[y] = v -/
def TPut (X : Cx) (H : Hp) (a : Addr) (y v : V) (H' : Hp) : Prop :=
  (∃ kvs k, H a = some (.dK kvs) ∧ y = kV k ∧ kvs.length < sizeLine ∧ H' = upd H a (.dK (putK kvs k v))) ∨
  ∃ xs k b, H a = some (DTo (X.prog, X.w) a xs) ∧ KeysAt X.K H xs ∧ y = .ref b ∧ SqT X.K H b (k.map kV) ∧ xs.length < sizeLine ∧ H' = upd H a (DTo (X.prog, X.w) a (setH xs k b v))
/-- what it says, and the heap behind a[y] = v -/
def TGP (X : Cx) (H : Hp) (a : Addr) (y v : V) (o : Option V) (H' : Hp) : Prop :=
  (∃ kvs k, H a = some (.dK kvs) ∧ y = kV k ∧ o = valV kvs k ∧ (o = none → kvs.length < sizeLine) ∧ H' = upd H a (.dK (putK kvs k v))) ∨
  ∃ xs k b, H a = some (DTo (X.prog, X.w) a xs) ∧ KeysAt X.K H xs ∧ y = .ref b ∧ SqT X.K H b (k.map kV) ∧ o = getH xs k ∧ (o = none → xs.length < sizeLine) ∧ H' = upd H a (DTo (X.prog, X.w) a (setH xs k b v))
/-- what it says, and the heap behind a.pop(y, ..) -/
def TGD (X : Cx) (H : Hp) (a : Addr) (y : V) (o : Option V) (H' : Hp) : Prop :=
  (∃ kvs k, H a = some (.dK kvs) ∧ y = kV k ∧ o = valV kvs k ∧ H' = upd H a (.dK (dropK kvs k))) ∨
  ∃ xs k b, H a = some (DTo (X.prog, X.w) a xs) ∧ KeysAt X.K H xs ∧ y = .ref b ∧ SqT X.K H b (k.map kV) ∧ o = getH xs k ∧ H' = upd H a (DTo (X.prog, X.w) a (delH xs k))
def IsTab (X : Cx) (H : Hp) (a : Addr) : Prop := (∃ kvs, H a = some (.dK kvs)) ∨ ∃ xs, H a = some (DTo (X.prog, X.w) a xs)
section
variable {X : Cx} {pins : List (Addr × Obj)} {σ : L2.St} {H H' : Hp} {s : Shared} {a : Addr} {y v d : V} {u r : Value} {o : Option V} {A : Around} {E : Value → Shared → Prop}
theorem tab_is (I : Inv X pins σ H s) (t : IsTab X H a) : s.TypeIs (.ref a) "dict" ∧ ∀ b, Value.ref a = .ref b → ∃ ob, s.heap.get? b = some ob ∧ ob.dict = none := by
  rcases t with ⟨kvs, e⟩ | ⟨xs, e⟩
  · obtain ⟨_, _, vs, _, dd⟩ := dk_of I.hok e
    have dd2 := dd
    obtain ⟨ob, _, _, h1, h2, _⟩ := dd2
    exact ⟨dd.typeIs, fun b q => by cases q; exact ⟨ob, h1, h2.2.1⟩⟩
  · exact dto_noDict I e
theorem TGet.tab (g : TGet X H a y o) : IsTab X H a := by
  rcases g with ⟨kvs, k, e, _⟩ | ⟨xs, k, b, e, _⟩
  · exact .inl ⟨_, e⟩
  · exact .inr ⟨_, e⟩
theorem getH_at {xs : List (List Key × Addr × V)} {ys : List (List Key × Addr × Value)} {k : List Key} (rel : PySem.Paired PR xs ys) (l : some v = getH xs k) : ∃ p, atKey ys k = some p ∧ RelV v p.2 := by
  obtain ⟨w', hw, rw'⟩ := RelO.some_of (v := v) (o := (atKey ys k).map (·.2)) (by rw [l]; exact pr_get k rel)
  obtain ⟨p, hp, hp2⟩ := Option.map_eq_some_iff.mp hw
  exact ⟨p, hp, by rw [hp2]; exact rw'⟩
theorem t_getItem {Q : Value → Shared → Prop} (hu : A.units + 1 < cLine) (I : Inv X pins σ H s) (g : TGet X H a y (some v)) (ry : RelV y u) (h : ∀ w' s', Inv X pins σ H s' → RelV v w' → Q w' s') :
    wpAny (model X.prog X.w) A (getItem (.ref a) u) Q E s := by
  rcases g with ⟨kvs, k, e, ey, l⟩ | ⟨xs, k, b, e, hk, ey, eb, l⟩
  · exact d_getItem hu I (.inl ⟨kvs, k, .inl e, ey, l⟩) ry h
  · subst ey
    cases (show u = Value.ref b from ry)
    obtain ⟨z, hd, ys, rel, dd⟩ := dto_of I e hk
    obtain ⟨p, hp, rp⟩ := getH_at rel l
    exact wpAny_getItem_heap (tupleKind_room_in1 hu) (key_sq I eb) dd hp (h _ _ (I.tok _) rp)
theorem t_in {Q : Value → Shared → Prop} (hu : A.units + 1 < cLine) (I : Inv X pins σ H s) (g : TGet X H a y o) (ry : RelV y u) (h : ∀ s', Inv X pins σ H s' → Q (.bool o.isSome) s') :
    wpAny (model X.prog X.w) A (compareOp .In u (.ref a)) Q E s := by
  rcases g with ⟨kvs, k, e, ey, l⟩ | ⟨xs, k, b, e, hk, ey, eb, l⟩
  · exact d_in hu I (.inl ⟨kvs, k, .inl e, ey, l⟩) ry h
  · subst ey
    cases (show u = Value.ref b from ry)
    obtain ⟨z, hd, ys, rel, dd⟩ := dto_of I e hk
    refine wpAny_in_heap (tupleKind_room_in1 hu) (key_sq I eb) hd dd ?_
    rw [← pr_isSome rel, ← l]
    exact h _ (I.tok _)
theorem t_notIn {Q : Value → Shared → Prop} (hu : A.units + 1 < cLine) (I : Inv X pins σ H s) (g : TGet X H a y o) (ry : RelV y u) (h : ∀ s', Inv X pins σ H s' → Q (.bool (!o.isSome)) s') :
    wpAny (model X.prog X.w) A (compareOp .NotIn u (.ref a)) Q E s := by
  rcases g with ⟨kvs, k, e, ey, l⟩ | ⟨xs, k, b, e, hk, ey, eb, l⟩
  · exact d_notIn hu I (.inl ⟨kvs, k, .inl e, ey, l⟩) ry h
  · subst ey
    cases (show u = Value.ref b from ry)
    obtain ⟨z, hd, ys, rel, dd⟩ := dto_of I e hk
    refine wpAny_notIn_heap (tupleKind_room_in1 hu) (key_sq I eb) hd dd ?_
    rw [← pr_isSome rel, ← l]
    exact h _ (I.tok _)
theorem dto_write {xs xs' : List (List Key × Addr × V)} {ys' : List (List Key × Addr × Value)} {h' : Heap} {t' : Nat} (I : Inv X pins σ H s) (e : H a = some (DTo (X.prog, X.w) a xs)) (z : xs'.length ≤ sizeLine) (hd : (a == sysModules) = false)
    (r : PySem.Paired PR xs' ys') (dd : h'.DictOfH (tupleKind (mixKind X.prog X.w)) a ys') (hs : Heap.SameBut a s.heap h') : Inv X pins σ (upd H a (DTo (X.prog, X.w) a xs')) { s with heap := h', toks := t' } := by
  have he : ∃ q, h'.get? a = some q := let ⟨q, _, _, hq, _⟩ := dd; ⟨q, hq⟩
  exact d_write I (by rw [e]; exact True.intro) hs he (dto_new z hd r dd)
theorem t_setItem {Q : Unit → Shared → Prop} (hu : A.units + 1 < cLine) (I : Inv X pins σ H s) (g : TPut X H a y v H') (ry : RelV y u) (rv : RelV v r) (h : ∀ s', Inv X pins σ H' s' → Q () s') :
    wpAny (model X.prog X.w) A (setItem (.ref a) u r) Q E s := by
  rcases g with ⟨kvs, k, e, ey, l, eH⟩ | ⟨xs, k, b, e, hk, ey, eb, l, eH⟩
  · exact d_setItem hu I (.inl ⟨kvs, k, e, ey, l, eH⟩) ry rv h
  · subst ey eH
    cases (show u = Value.ref b from ry)
    obtain ⟨z, hd, ys, rel, dd⟩ := dto_of I e hk
    refine wpAny_setItem_heap (hsz := by rw [← pr_len rel]; exact z) (tupleKind_room_in1 hu) (key_sq I eb) dd fun h' dd' hs => h _ ?_
    exact dto_write I e (by have := setH_len xs k b v; omega) hd (pr_set k rv rel) dd' hs
theorem t_get1 {Q : Value → Shared → Prop} (hu : A.units + 1 < cLine) (I : Inv X pins σ H s) (g : TGet X H a y o) (ry : RelV y u) (h : ∀ w' s', Inv X pins σ H s' → RelV (o.getD .non) w' → Q w' s') :
    wpAny (model X.prog X.w) A (call (.builtin "dict.get") [.ref a, u]) Q E s := by
  rcases g with ⟨kvs, k, e, ey, l⟩ | ⟨xs, k, b, e, hk, ey, eb, l⟩
  · exact d_get1 hu I (.inl ⟨kvs, k, .inl e, ey, l⟩) ry h
  · subst ey
    cases (show u = Value.ref b from ry)
    obtain ⟨z, hd, ys, rel, dd⟩ := dto_of I e hk
    refine call_meetsIn PySem.F.slot_dict_get dd.typeIs PySem.F.entry_dict_get (PySem.F.args_dict_get_2 _ _) (meetsH_dict_get (tupleKind (mixKind X.prog X.w)) a b hd) ⟨tupleKind_room_in1 hu, k, ys, key_sq I eb, dd, h _ _ (I.tok _) ?_⟩
    rw [l]
    exact (pr_get k rel).getD rfl
theorem t_get2 {Q : Value → Shared → Prop} (hu : A.units + 1 < cLine) (I : Inv X pins σ H s) (g : TGet X H a y o) (ry : RelV y u) (rd : RelV d r) (h : ∀ w' s', Inv X pins σ H s' → RelV (o.getD d) w' → Q w' s') :
    wpAny (model X.prog X.w) A (call (.builtin "dict.get") [.ref a, u, r]) Q E s := by
  rcases g with ⟨kvs, k, e, ey, l⟩ | ⟨xs, k, b, e, hk, ey, eb, l⟩
  · exact d_get2 hu I (.inl ⟨kvs, k, .inl e, ey, l⟩) ry rd h
  · subst ey
    cases (show u = Value.ref b from ry)
    obtain ⟨z, hd, ys, rel, dd⟩ := dto_of I e hk
    refine call_meetsIn PySem.F.slot_dict_get dd.typeIs PySem.F.entry_dict_get (PySem.F.args_dict_get_3 _ _ _) (meetsH_dict_get_default (tupleKind (mixKind X.prog X.w)) a b hd r) ⟨tupleKind_room_in1 hu, k, ys, key_sq I eb, dd, h _ _ (I.tok _) ?_⟩
    rw [l]
    exact (pr_get k rel).getD rd
theorem t_setd {Q : Value → Shared → Prop} (hu : A.units + 1 < cLine) (I : Inv X pins σ H s) (g : TGP X H a y d o H') (ry : RelV y u) (rd : RelV d r) (h1 : ∀ v, o = some v → ∀ w' s', Inv X pins σ H s' → RelV v w' → Q w' s')
    (h2 : o = none → ∀ s', Inv X pins σ H' s' → Q r s') : wpAny (model X.prog X.w) A (call (.builtin "dict.setdefault") [.ref a, u, r]) Q E s := by
  rcases g with ⟨kvs, k, e, ey, l, lz, eH⟩ | ⟨xs, k, b, e, hk, ey, eb, l, lz, eH⟩
  · subst ey eH
    obtain ⟨z, hd, vs, rel, dd⟩ := dk_of I.hok e
    have hz : vs.length ≤ sizeLine := by rw [← rel.length]; exact z
    refine call_meetsIn F.slot_dict_setdefault dd.typeIs F.entry_dict_setdefault (F.args_dict_setdefault_3 _ _ _) (kt_meets_setdefault (mixKind X.prog X.w) _ (kV_is ry) hd _) ⟨vs, dd, hz, fun u hu => ?_, fun hn h' dd' hs => ?_⟩
    · have rr := rel.val k
      rw [hu, ← l] at rr
      cases o with
      | none => exact False.elim rr
      | some x => exact h1 x rfl _ _ (I.tok _) rr
    · have rr := rel.val k
      rw [hn, ← l] at rr
      cases o with
      | some x => exact False.elim rr
      | none =>
        have hl2 : (putK kvs k d).length ≤ sizeLine := by have := length_putK kvs k d; have := lz rfl; omega
        exact h2 rfl _ (d_write (t' := s.toks + 1) I (by rw [e]; exact True.intro) hs (let ⟨q, _, _, hq, _⟩ := dd'; ⟨q, hq⟩) (dk_new hl2 hd (rel.put k rd) dd'))
  · subst ey eH
    cases (show u = Value.ref b from ry)
    obtain ⟨z, hd, ys, rel, dd⟩ := dto_of I e hk
    refine call_setdefault_heap (knd := tupleKind (mixKind X.prog X.w)) (hsz := by rw [← pr_len rel]; exact z) (tupleKind_room_in1 hu) (key_sq I eb) hd dd (fun p hp => ?_) (fun hn h' dd' hs => ?_)
    · have rr := pr_get k rel
      rw [hp, ← l] at rr
      cases o with
      | none => exact False.elim rr
      | some x => exact h1 x rfl _ _ (I.tok _) rr
    · have rr := pr_get k rel
      rw [hn, ← l] at rr
      cases o with
      | some x => exact False.elim rr
      | none => exact h2 rfl _ (dto_write I e (by have := setH_len xs k b d; have := lz rfl; omega) hd (pr_set k rd rel) dd' hs)
theorem delH_len (xs : List (List Key × Addr × V)) (k : List Key) : (delH xs k).length ≤ xs.length := List.length_filter_le _ _
theorem t_pop2 {Q : Value → Shared → Prop} (hu : A.units + 1 < cLine) (I : Inv X pins σ H s) (g : TGD X H a y o H') (ry : RelV y u) (rd : RelV d r) (h1 : ∀ v, o = some v → ∀ w' s', Inv X pins σ H' s' → RelV v w' → Q w' s')
    (h2 : o = none → ∀ s', Inv X pins σ H s' → Q r s') : wpAny (model X.prog X.w) A (call (.builtin "dict.pop") [.ref a, u, r]) Q E s := by
  rcases g with ⟨kvs, k, e, ey, l, eH⟩ | ⟨xs, k, b, e, hk, ey, eb, l, eH⟩
  · subst ey eH
    cases o with
    | none => exact d_popD I e ry l.symm (h2 rfl)
    | some v => exact d_pop I e ry l.symm (.inr ⟨_, rfl⟩) (h1 v rfl)
  · subst ey eH
    cases (show u = Value.ref b from ry)
    obtain ⟨z, hd, ys, rel, dd⟩ := dto_of I e hk
    have rr := pr_get k rel
    rw [← l] at rr
    cases o with
    | none =>
      cases hp : atKey ys k with
      | some p => rw [hp] at rr; exact False.elim rr
      | none => exact call_pop_default_heap (knd := tupleKind (mixKind X.prog X.w)) (k := k) (hsz := by rw [← pr_len rel]; exact z) (tupleKind_room_in1 hu) (key_sq I eb) hd dd hp fun tk => h2 rfl _ (I.tok tk)
    | some v =>
      cases hp : atKey ys k with
      | none => rw [hp] at rr; exact False.elim rr
      | some p =>
        rw [hp] at rr
        refine call_pop_heap (knd := tupleKind (mixKind X.prog X.w)) (k := k) (hsz := by rw [← pr_len rel]; exact z) (.inr ⟨_, rfl⟩) (F.args_dict_pop_3 _ _ _) (tupleKind_room_in1 hu) (key_sq I eb) hd dd hp fun h' dd' hs => h1 v rfl _ _ ?_ rr
        exact dto_write I e (Nat.le_trans (delH_len xs k) z) hd (pr_del k rel) dd' hs
end
end Mi

namespace Mi
open PySem PySem.Spec PyProof.Rows L2

/-! ### plain data -/
mutual
theorem D.pd_lay : ∀ {x : D} {d : PyData}, x.pd = some d → d.canLay0 = true
  | .non, _, h => by simp only [D.pd] at h; cases h; simp [PyData.canLay0]
  | .bl b, _, h => by simp only [D.pd] at h; cases h; simp [PyData.canLay0]
  | .int i, _, h => by simp only [D.pd] at h; cases h; simp [PyData.canLay0]
  | .str s, _, h => by
    simp only [D.pd] at h
    split at h
    · cases h; simpa [PyData.canLay0]
    · cases h
  | .tup l, _, h => by
    simp only [D.pd, Option.map_eq_some_iff] at h
    obtain ⟨ds, h, rfl⟩ := h
    simp only [PyData.canLay0]
    exact D.pds_lay h
  | .lst l, _, h => by
    simp only [D.pd, Option.map_eq_some_iff] at h
    obtain ⟨ds, h, rfl⟩ := h
    simp only [PyData.canLay0]
    exact D.pds_lay h
  | .ref a, _, h => by simp [D.pd] at h
  | .fn a, _, h => by simp [D.pd] at h
theorem D.pds_lay : ∀ {l : List D} {ds : List PyData}, D.pds l = some ds → PyData.canLayAll0 ds = true
  | [], _, h => by simp only [D.pds] at h; cases h; simp [PyData.canLayAll0]
  | x :: r, _, h => by
    simp only [D.pds] at h
    split at h
    · rename_i a b e1 e2
      cases h
      simp only [PyData.canLayAll0, Bool.and_eq_true]
      exact ⟨D.pd_lay e1, D.pds_lay e2⟩
    · cases h
end
section
variable {K : PySem.W.Frag} {mg : Str → Option Value} {H : Hp} {F : Addr → Prop}
mutual
theorem Rep.dp : ∀ {x : D} {v : V} {d : PyData}, Rep K mg H F x v → x.pd = some d → Dp K H v d
  | .non, _, _, .non, h => by simp only [D.pd] at h; cases h; exact .non
  | .bl b, _, _, .bl _, h => by simp only [D.pd] at h; cases h; exact .bl b
  | .int i, _, _, .int _, h => by simp only [D.pd] at h; cases h; exact .int i
  | .str s, _, _, .str _, h => by
    simp only [D.pd] at h
    split at h
    · cases h; exact .str s
    · cases h
  | .tup l, _, _, .tup n t, h => by
    simp only [D.pd, Option.map_eq_some_iff] at h
    obtain ⟨ds, h, rfl⟩ := h
    exact .tup n.sq (Reps.dp t h)
  | .lst l, _, _, .lst n t, h => by
    simp only [D.pd, Option.map_eq_some_iff] at h
    obtain ⟨ds, h, rfl⟩ := h
    exact .lst n.sq (Reps.dp t h)
  | .ref a, _, _, _, h => by simp [D.pd] at h
  | .fn a, _, _, _, h => by simp [D.pd] at h
theorem Reps.dp : ∀ {l : List D} {vs : List V} {ds : List PyData}, Reps K mg H F l vs → D.pds l = some ds → DpAll K H vs ds
  | [], _, _, .nil, h => by simp only [D.pds] at h; cases h; exact .nil
  | x :: r, _, _, .cons q t, h => by
    simp only [D.pds] at h
    split at h
    · rename_i a b e1 e2
      cases h
      exact .cons (Rep.dp q e1) (Reps.dp t e2)
    · cases h
end
end
section
variable {C : BC} {p : Pt} {x : SV} {v : V} {l : List D} {d : PyData}
theorem RepB.lst (I : I3 C p) (r : RepB C p x v) (h : lstD p.hp x = some l) : ∃ a vs, v = .ref a ∧ SqL C.K p.H a vs ∧ RepsP C p l vs := by
  cases x with
  | od l => exact r.elim
  | ol m =>
    obtain ⟨a, vs, e, h1, h2, h3, h4⟩ := r
    have h' : some m = some l := h
    cases h'
    exact ⟨a, vs, e, SqL.of h1, h4⟩
  | d x =>
    cases x with
    | lst m =>
      have h' : some m = some l := h
      cases h'
      cases r with
      | lst n t => exact ⟨_, _, rfl, n.sq, t⟩
    | ref a =>
      cases r
      have h' : (match p.hp a with | some (.lst l) => some l | _ => none) = some l := h
      split at h'
      · rename_i m e
        cases h'
        obtain ⟨u, e2, vs, rfl, t⟩ := I.heap a _ e
        exact ⟨a, vs, rfl, SqL.of e2, t⟩
      · cases h'
    | non => cases h
    | bl b => cases h
    | int i => cases h
    | str s => cases h
    | tup t => cases h
    | fn f => cases h
theorem RepB.seq (I : I3 C p) (r : RepB C p x v) (h : seqD p.hp x = some l) : ∃ a vs, v = .ref a ∧ (SqL C.K p.H a vs ∨ SqT C.K p.H a vs) ∧ RepsP C p l vs := by
  have viaL : lstD p.hp x = some l → ∃ a vs, v = .ref a ∧ (SqL C.K p.H a vs ∨ SqT C.K p.H a vs) ∧ RepsP C p l vs := fun h =>
    let ⟨a, vs, e, s, t⟩ := r.lst I h
    ⟨a, vs, e, .inl s, t⟩
  cases x with
  | od l => exact r.elim
  | ol m => exact viaL h
  | d x =>
    cases x with
    | tup m =>
      have h' : some m = some l := h
      cases h'
      cases r with
      | tup n t => exact ⟨_, _, rfl, .inr n.sq, t⟩
    | lst m => exact viaL h
    | ref a => exact viaL h
    | non => cases h
    | bl b => cases h
    | int i => cases h
    | str s => cases h
    | fn f => cases h
theorem RepB.dp (I : I3 C p) (r : RepB C p x v) (h : svPd p.hp x = some d) : Dp C.K p.H v d ∧ d.canLay0 = true := by
  have viaL : ∀ {l : List D}, lstD p.hp x = some l → (D.pds l).map .list = some d → Dp C.K p.H v d ∧ d.canLay0 = true := fun {l} h h2 => by
    obtain ⟨a, vs, rfl, s, t⟩ := r.lst I h
    rw [Option.map_eq_some_iff] at h2
    obtain ⟨ds, h2, rfl⟩ := h2
    exact ⟨.lst s (t.dp h2), by simp only [PyData.canLay0]; exact D.pds_lay h2⟩
  cases x with
  | od l => exact r.elim
  | ol m => exact viaL rfl h
  | d x =>
    have viaD : x.pd = some d → Dp C.K p.H v d ∧ d.canLay0 = true := fun h => ⟨Rep.dp r h, D.pd_lay h⟩
    cases x with
    | ref a =>
      have h' : (match p.hp a with | some (.lst l) => (D.pds l).map .list | _ => none) = some d := h
      split at h'
      · rename_i m e
        refine viaL (l := m) ?_ h'
        show (match p.hp a with | some (.lst l) => some l | _ => none) = some m
        rw [e]
      · cases h'
    | tup m => exact viaD h
    | lst m => exact viaD h
    | non => exact viaD h
    | bl b => exact viaD h
    | int i => exact viaD h
    | str s => exact viaD h
    | fn f => exact viaD h
end

/-! ### operators by values, of any lists, of data -/
section
variable {X : Cx}
def rCatL (K : PySem.W.Frag) : R2 := fun x y H Q => ∃ a b xs ys, x = .ref a ∧ y = .ref b ∧ SqL K H a xs ∧ SqL K H b ys ∧ xs.length + ys.length ≤ sizeLine ∧ ∀ p, H p = none → Q (.ref p) (upd H p (.lst (xs ++ ys)))
theorem op_catL : OpR X (binaryOp .Add) (rCatL X.K) := by
  rintro pins s σ H x y v u Q I rx ry ⟨a, b, xs, ys, rfl, rfl, ha, hb, hz, q⟩
  cases rx; cases ry
  obtain ⟨its, r1, p1, _⟩ := I.list ha
  obtain ⟨its2, r2, p2, _⟩ := I.list hb
  have l1 := r1.length
  have l2 := r2.length
  obtain ⟨⟨cls1, dd1, data1, sl1⟩, g1, c1, n1, e1⟩ := p1.isList
  obtain ⟨⟨cls2, dd2, data2, sl2⟩, g2, c2, n2, e2⟩ := p2.isList
  simp only at c1 e1 c2 e2
  subst c1 e1 c2 e2
  have hz' : its.length + its2.length ≤ sizeLine := by omega
  refine concat_meets ⟨_, g1, rfl⟩ ⟨_, g2, rfl⟩ noFill_list_add seq_list_add PySem.F.slot_list_add PySem.F.entry_list_add (PySem.F.args_list_add_2 _ _) (list_addW a b its.toArray its2.toArray n1 n2 dd1 dd2 sl1 sl2 (by simpa using hz')) ⟨g1, g2, ?_⟩
  have ea : its.toArray ++ its2.toArray = (its ++ its2).toArray := by simp
  rw [ea]
  exact ⟨.ref _, _, I.lnew (t' := s.toks) (r1.append r2) (by rw [List.length_append]; omega), rfl, q _ I.fresh⟩
end
end Mi

namespace Mi
open PySem PySem.Spec PyProof.Rows L2

/-! ### tables: trees beside the layer's values -/
section
variable {K : PySem.W.Frag} {mg : Str → Option Value} {H : Hp} {F : Addr → Prop}
def OptR (K : PySem.W.Frag) (mg : Str → Option Value) (H : Hp) (F : Addr → Prop) : Option D → Option V → Prop
  | some d, some v => Rep K mg H F d v
  | none, none => True
  | _, _ => False
theorem kv_get (k : Key) : ∀ {l : List (Key × D)} {vs : List (Key × V)}, RepKV K mg H F l vs → OptR K mg H F (getK l k) (valV vs k)
  | _, _, .nil => True.intro
  | _, _, @PySem.Paired.cons _ _ _ p q ps qs h t => by
    obtain ⟨h1, h2⟩ := h
    by_cases e : p.1 = k
    · have a1 : getK (p :: ps) k = some p.2 := by simp [getK, List.find?_cons, e]
      have a2 : valV (q :: qs) k = some q.2 := by simp [valV, List.find?_cons, h1.symm.trans e]
      rw [a1, a2]; exact h2
    · have a1 : getK (p :: ps) k = getK ps k := by simp [getK, List.find?_cons, e]
      have ne : ¬ q.1 = k := fun z => e (h1.trans z)
      have a2 : valV (q :: qs) k = valV qs k := by simp [valV, List.find?_cons, ne]
      rw [a1, a2]; exact kv_get k t
theorem kh_get (k : List Key) : ∀ {l : List (List Key × D)} {xs : List (List Key × Addr × V)}, RepKH K mg H F l xs → OptR K mg H F (getK l k) (getH xs k)
  | _, _, .nil => True.intro
  | _, _, @PySem.Paired.cons _ _ _ p q ps qs h t => by
    obtain ⟨h1, _, h2⟩ := h
    by_cases e : p.1 = k
    · have a1 : getK (p :: ps) k = some p.2 := by simp [getK, List.find?_cons, e]
      have a2 : getH (q :: qs) k = some q.2.2 := by simp [getH, List.find?_cons, h1.symm.trans e]
      rw [a1, a2]; exact h2
    · have ne : ¬ q.1 = k := fun z => e (h1.trans z)
      have a1 : getK (p :: ps) k = getK ps k := by simp [getK, List.find?_cons, e]
      have a2 : getH (q :: qs) k = getH qs k := by simp [getH, List.find?_cons, ne]
      rw [a1, a2]; exact kh_get k t
theorem OptR.isSome {o : Option D} {u : Option V} (h : OptR K mg H F o u) : o.isSome = u.isSome := by
  cases o <;> cases u <;> first | rfl | exact False.elim h
theorem any_get {κ α : Type} [DecidableEq κ] (k : κ) : ∀ l : List (κ × α), (l.any fun p => decide (p.1 = k)) = (getK l k).isSome
  | [] => rfl
  | p :: r => by
    by_cases e : p.1 = k
    · simp [getK, List.find?_cons, e]
    · have := any_get k r
      simp only [List.any_cons, decide_eq_false e, Bool.false_or, this]
      simp [getK, List.find?_cons, e]
theorem kv_map (k : Key) {d : D} {v : V} (rv : Rep K mg H F d v) : ∀ {l : List (Key × D)} {vs : List (Key × V)}, RepKV K mg H F l vs → RepKV K mg H F (l.map fun p => if p.1 = k then (p.1, d) else p) (vs.map fun p => if p.1 = k then (p.1, v) else p)
  | _, _, .nil => .nil
  | _, _, @PySem.Paired.cons _ _ _ p q ps qs h t => by
    unfold RepKV
    rw [List.map_cons, List.map_cons]
    refine .cons ?_ (kv_map k rv t)
    obtain ⟨h1, h2⟩ := h
    by_cases e : p.1 = k
    · rw [if_pos e, if_pos (h1.symm.trans e)]; exact ⟨h1, rv⟩
    · rw [if_neg e, if_neg (fun z => e (h1.trans z))]; exact ⟨h1, h2⟩
theorem pd_snoc {α β : Type} {R : α → β → Prop} {p : α} {q : β} (h : R p q) : ∀ {xs : List α} {ys : List β}, PySem.Paired R xs ys → PySem.Paired R (xs ++ [p]) (ys ++ [q])
  | _, _, .nil => .cons h .nil
  | _, _, .cons r t => .cons r (pd_snoc h t)
theorem kv_set (k : Key) {d : D} {v : V} (rv : Rep K mg H F d v) {l : List (Key × D)} {vs : List (Key × V)} (r : RepKV K mg H F l vs) : RepKV K mg H F (setK l k d) (putK vs k v) := by
  unfold setK putK
  rw [any_get, valV_any, (kv_get k r).isSome]
  split
  · exact kv_map k rv r
  · exact pd_snoc ⟨rfl, rv⟩ r
theorem kv_del (k : Key) : ∀ {l : List (Key × D)} {vs : List (Key × V)}, RepKV K mg H F l vs → RepKV K mg H F (delK l k) (dropK vs k)
  | _, _, .nil => .nil
  | _, _, @PySem.Paired.cons _ _ _ p q ps qs h t => by
    unfold delK dropK
    by_cases e : p.1 = k
    · rw [List.filter_cons_of_neg (by simp [e]), List.filter_cons_of_neg (by simp [h.1.symm.trans e])]
      exact kv_del k t
    · have ne : ¬ q.1 = k := fun z => e (h.1.trans z)
      rw [List.filter_cons_of_pos (by simp [e]), List.filter_cons_of_pos (by simp [ne])]
      exact .cons h (kv_del k t)
theorem kh_map (k : List Key) {d : D} {v : V} (rv : Rep K mg H F d v) : ∀ {l : List (List Key × D)} {xs : List (List Key × Addr × V)}, RepKH K mg H F l xs → RepKH K mg H F (l.map fun p => if p.1 = k then (p.1, d) else p) (xs.map fun x => if x.1 = k then (x.1, x.2.1, v) else x)
  | _, _, .nil => .nil
  | _, _, @PySem.Paired.cons _ _ _ p q ps qs h t => by
    unfold RepKH
    rw [List.map_cons, List.map_cons]
    refine .cons ?_ (kh_map k rv t)
    obtain ⟨h1, h2, h3⟩ := h
    by_cases e : p.1 = k
    · rw [if_pos e, if_pos (h1.symm.trans e)]; exact ⟨h1, h2, rv⟩
    · rw [if_neg e, if_neg (fun z => e (h1.trans z))]; exact ⟨h1, h2, h3⟩
theorem kh_set (k : List Key) {d : D} {v : V} {b : Addr} (n : NodeT K H F b (k.map kV)) (rv : Rep K mg H F d v) {l : List (List Key × D)} {xs : List (List Key × Addr × V)} (r : RepKH K mg H F l xs) : RepKH K mg H F (setK l k d) (setH xs k b v) := by
  unfold setK setH
  rw [any_get, (kh_get k r).isSome]
  split
  · exact kh_map k rv r
  · exact pd_snoc ⟨rfl, n, rv⟩ r
theorem kh_del (k : List Key) : ∀ {l : List (List Key × D)} {xs : List (List Key × Addr × V)}, RepKH K mg H F l xs → RepKH K mg H F (delK l k) (delH xs k)
  | _, _, .nil => .nil
  | _, _, @PySem.Paired.cons _ _ _ p q ps qs h t => by
    unfold delK delH
    by_cases e : p.1 = k
    · rw [List.filter_cons_of_neg (by simp [e]), List.filter_cons_of_neg (by simp [h.1.symm.trans e])]
      exact kh_del k t
    · have ne : ¬ q.1 = k := fun z => e (h.1.trans z)
      rw [List.filter_cons_of_pos (by simp [e]), List.filter_cons_of_pos (by simp [ne])]
      exact .cons h (kh_del k t)
theorem kh_keys : ∀ {l : List (List Key × D)} {xs : List (List Key × Addr × V)}, RepKH K mg H F l xs → KeysAt K H xs
  | _, _, .nil, x, hx => nomatch hx
  | _, _, @PySem.Paired.cons _ _ _ p q ps qs h t, x, hx => by
    rcases List.mem_cons.mp hx with e | hx
    · rw [e, ← h.1]; exact h.2.1.sq
    · exact kh_keys t x hx
theorem keyD_rep {d : D} {v : V} {k : Key} (h : keyD d = some k) (r : Rep K mg H F d v) : v = kV k := by
  cases d <;> first | (cases h; cases r; rfl) | cases h
theorem keysD_rep : ∀ {l : List D} {vs : List V} {ks : List Key}, keysD l = some ks → Reps K mg H F l vs → vs = ks.map kV
  | [], _, ks, h, .nil => by cases h; rfl
  | x :: r, _, ks, h, .cons q t => by
    simp only [keysD] at h
    split at h
    · rename_i a b e1 e2
      cases h
      rw [keyD_rep e1 q, keysD_rep e2 t]; rfl
    · cases h
end
section
variable {C : BC} {p : Pt} {X : Cx}
theorem keyS_rep {y : SV} {u : V} {k : Key} (h : keyS y = some k) (r : RepB C p y u) : u = kV k := by
  cases y with
  | d y => exact keyD_rep h r
  | _ => cases h
theorem keyT_rep {y : SV} {u : V} {ks : List Key} (h : keyT y = some ks) (r : RepB C p y u) : ∃ b, u = .ref b ∧ NodeT C.K p.H (Fb C p) b (ks.map kV) := by
  cases y with
  | d y =>
    cases y with
    | tup l =>
      cases r with
      | tup n t =>
        rw [keysD_rep h t] at n
        exact ⟨_, rfl, n⟩
    | _ => cases h
  | _ => cases h
/-- a table's object, of an address that our heap knows -/
theorem I3.putM (I : I3 C p) {a : Addr} {m m' : MO} {u' : HO} (e1 : p.hp a = some m) (r : RepO C p a m' u') :
    I3 C { p with hp := updD p.hp a m', H := upd p.H a u' } ∧ KE p { p with hp := updD p.hp a m', H := upd p.H a u' } := by
  have ne : ∀ {b}, p.hp b = none → b ≠ a := fun h z => by rw [z, e1] at h; cases h
  have ke : KE p { p with hp := updD p.hp a m', H := upd p.H a u' } := ⟨rfl, rfl, fun b o e f => ⟨by show upd p.H a _ b = _; rw [upd_ne (ne f)]; exact e, by show updD p.hp a _ b = _; rw [updD_ne (ne f)]; exact f⟩, fun b h => by
    have h' : upd p.H a u' b = none := h
    by_cases z : b = a
    · rw [z, upd_same] at h'; cases h'
    · rw [upd_ne z] at h'; exact h'⟩
  refine ⟨I.step ke fun b o e => ?_, ke⟩
  have e' : updD p.hp a m' b = some o := e
  by_cases z : b = a
  · subst z
    rw [updD_same] at e'; cases e'
    exact ⟨u', upd_same, RepM.keep ke.ks.kp r⟩
  · rw [updD_ne z] at e'
    obtain ⟨u, z2, q⟩ := I.heap b o e'
    exact ⟨u, by show upd p.H a _ b = _; rw [upd_ne z]; exact z2, RepO.kp ke.ks.kp q⟩
/-- a new object that our heap knows -/
theorem I3.madeM (I : I3 C p) {a : Addr} {m : MO} {u : HO} (h : p.H a = none) (r : RepO C p a m u) :
    I3 C (p.wh (updD p.hp a m) (upd p.H a u)) ∧ KE p (p.wh (updD p.hp a m) (upd p.H a u)) := by
  have k : KE p (p.wh (updD p.hp a m) (upd p.H a u)) := ⟨rfl, rfl, fun b u e f => by
    have ne : b ≠ a := ne_of_none e h
    exact ⟨by show upd p.H a _ b = some u; rw [upd_ne ne]; exact e, by show updD p.hp a _ b = none; rw [updD_ne ne]; exact f⟩, fun b hb => by
    by_cases e : b = a
    · rw [e]; exact h
    · have hb' : upd p.H a _ b = none := hb
      rw [upd_ne e] at hb'; exact hb'⟩
  refine ⟨I.step k fun b o e => ?_, k⟩
  by_cases hb : b = a
  · subst hb
    have e' : updD p.hp b m b = some o := e
    rw [updD_same] at e'; cases e'
    exact ⟨u, upd_same, RepM.keep k.ks.kp r⟩
  · have e' : updD p.hp a m b = some o := e
    rw [updD_ne hb] at e'
    obtain ⟨w, e2, r⟩ := I.heap b o e'
    exact ⟨w, by show upd p.H a _ b = some w; rw [upd_ne hb]; exact e2, RepO.kp k.ks.kp r⟩
/-- an object that nothing spoke of is known from now on -/
theorem I3.openG {q : Pt} {a : Addr} {m : MO} {u0 u : HO} (I : I3 C q) (hn : q.H a = none) (I' : I3 (C.wG a) p) (k : KE (q.wH (upd q.H a u0)) p) (r : RepO (C.wG a) p a m u) :
    I3 C (p.wh (updD p.hp a m) (upd p.H a u)) ∧ KE q (p.wh (updD p.hp a m) (upd p.H a u)) := by
  have ke : KE q (p.wh (updD p.hp a m) (upd p.H a u)) := ⟨k.1, k.2, fun b o e f => by
    have ne : b ≠ a := ne_of_none e hn
    obtain ⟨h1, h2⟩ := k.3 b o (by show upd q.H a u0 b = _; rw [upd_ne ne]; exact e) f
    exact ⟨by show upd p.H a u b = _; rw [upd_ne ne]; exact h1, by show updD p.hp a m b = _; rw [updD_ne ne]; exact h2⟩, fun b hb => by
    have hb' : upd p.H a u b = none := hb
    by_cases z : b = a
    · rw [z]; exact hn
    · rw [upd_ne z] at hb'
      have h2 : upd q.H a u0 b = none := k.4 b hb'
      rw [upd_ne z] at h2; exact h2⟩
  have kp : Kp p.H (Fb (C.wG a) p) (upd p.H a u) (Fb C (p.wh (updD p.hp a m) (upd p.H a u))) := fun b o e f => by
    have ne : b ≠ a := fun z => f (.inr (.inr (.inl z)))
    refine ⟨by rw [upd_ne ne]; exact e, fun z => ?_⟩
    rcases z with z | z | z
    · have z' : updD p.hp a m b ≠ none := z
      rw [updD_ne ne] at z'
      exact f (.inl z')
    · exact f (.inr (.inl z))
    · exact f (.inr (.inr (.inr z)))
  refine ⟨I.step ke fun b o e => ?_, ke⟩
  have e' : updD p.hp a m b = some o := e
  by_cases z : b = a
  · subst z
    rw [updD_same] at e'; cases e'
    exact ⟨u, upd_same, RepM.keep kp r⟩
  · rw [updD_ne z] at e'
    obtain ⟨w, z2, q⟩ := I'.heap b o e'
    exact ⟨w, by show upd p.H a _ b = _; rw [upd_ne z]; exact z2, RepM.keep kp q⟩
abbrev OptP (C : BC) (p : Pt) : Option D → Option V → Prop := OptR C.K C.mg p.H (Fb C p)
/-- what a table says -/
theorem dictG_ok (hK : C.K = X.K) (hw : C.pw = (X.prog, X.w)) (I : I3 C p) {x y : SV} {v u : V} (rx : RepB C p x v) (ry : RepB C p y u) {k : Option D → Prop} (h : dictG x y p.hp k) : ∃ a o od, v = .ref a ∧ TGet X p.H a u o ∧ k od ∧ OptP C p od o := by
  unfold dictG at h
  split at h
  · rename_i a
    have hv : v = .ref a := by cases rx; rfl
    split at h
    · rename_i l e
      obtain ⟨i, e1, h⟩ := onSome_iff.mp h
      obtain ⟨w, e2, vs, rfl, r⟩ := I.heap a _ e
      exact ⟨a, _, _, hv, .inl ⟨vs, i, e2, keyS_rep e1 ry, rfl⟩, h, kv_get i r⟩
    · rename_i l e
      obtain ⟨i, e1, h⟩ := onSome_iff.mp h
      obtain ⟨w, e2, xs, rfl, r⟩ := I.heap a _ e
      obtain ⟨b, rfl, n⟩ := keyT_rep e1 ry
      rw [hw] at e2
      exact ⟨a, _, _, hv, .inr ⟨xs, i, b, e2, by rw [← hK]; exact kh_keys r, rfl, by rw [← hK]; exact n.sq, rfl⟩, h, kh_get i r⟩
    · exact h.elim
  · exact h.elim
/-- a table is written -/
theorem dictP_ok (hK : C.K = X.K) (hw : C.pw = (X.prog, X.w)) (I : I3 C p) {x y : SV} {v u w : V} {d : D} (rx : RepB C p x v) (ry : RepB C p y u) (rd : RepP C p d w) {k : HpD → Prop} (h : dictP x y d p.hp k) :
    ∃ a H', v = .ref a ∧ TPut X p.H a u w H' ∧ ∃ hp', k hp' ∧ I3 C (p.wh hp' H') ∧ KE p (p.wh hp' H') := by
  unfold dictP at h
  split at h
  · rename_i a
    have hv : v = .ref a := by cases rx; rfl
    split at h
    · rename_i l e
      obtain ⟨i, e1, hz, h⟩ := onSome_iff.mp h
      obtain ⟨w0, e2, vs, rfl, r⟩ := I.heap a _ e
      obtain ⟨J, kk⟩ := I.putM (m' := .dk (setK l i d)) e ⟨_, rfl, kv_set i rd r⟩
      exact ⟨a, _, hv, .inl ⟨vs, i, e2, keyS_rep e1 ry, by rw [← PySem.Paired.length r]; exact hz, rfl⟩, _, h, J, kk⟩
    · rename_i l e
      obtain ⟨i, e1, hz, h⟩ := onSome_iff.mp h
      obtain ⟨w0, e2, xs, rfl, r⟩ := I.heap a _ e
      obtain ⟨b, rfl, n⟩ := keyT_rep e1 ry
      obtain ⟨J, kk⟩ := I.putM (m' := .dt (setK l i d)) e ⟨_, rfl, kh_set i n rd r⟩
      rw [hw] at e2 J kk
      exact ⟨a, _, hv, .inr ⟨xs, i, b, e2, by rw [← hK]; exact kh_keys r, rfl, by rw [← hK]; exact n.sq, by rw [← PySem.Paired.length r]; exact hz, rfl⟩, _, h, J, kk⟩
    · exact h.elim
  · exact h.elim
theorem isDict_ok (hw : C.pw = (X.prog, X.w)) (I : I3 C p) {x : SV} {v : V} (rx : RepB C p x v) (h : isDict x p.hp) : ∃ a, v = .ref a ∧ IsTab X p.H a := by
  unfold isDict at h
  split at h
  · rename_i a
    have hv : v = .ref a := by cases rx; rfl
    split at h
    · rename_i l e
      obtain ⟨w, e2, vs, rfl, r⟩ := I.heap a _ e
      exact ⟨a, hv, .inl ⟨_, e2⟩⟩
    · rename_i l e
      obtain ⟨w, e2, xs, rfl, r⟩ := I.heap a _ e
      rw [hw] at e2
      exact ⟨a, hv, .inr ⟨_, e2⟩⟩
    · exact h.elim
  · exact h.elim
theorem isList_ok (I : I3 C p) {x : SV} {v : V} (rx : RepB C p x v) (h : isList x p.hp) : ∃ a vs, v = .ref a ∧ p.H a = some (.lst vs) := by
  unfold isList at h
  split at h
  · rename_i a
    have hv : v = .ref a := by cases rx; rfl
    split at h
    · rename_i l e
      obtain ⟨w, e2, vs, rfl, r⟩ := I.heap a _ e
      exact ⟨a, vs, hv, e2⟩
    · exact h.elim
  · exact h.elim
/-- in, not in -/
theorem op_inT (hu : X.A.units + 1 < cLine) : OpR X (compareOp .In) (fun y x H Q => ∃ a o, x = .ref a ∧ TGet X H a y o ∧ Q (.bl o.isSome) H) := by
  rintro pins s σ H y x u v Q I ry rx ⟨a, o, rfl, g, q⟩
  cases rx
  exact t_in hu I g ry fun s' I' => ⟨.bl o.isSome, H, I', rfl, q⟩
theorem op_notInT (hu : X.A.units + 1 < cLine) : OpR X (compareOp .NotIn) (fun y x H Q => ∃ a o, x = .ref a ∧ TGet X H a y o ∧ Q (.bl (!o.isSome)) H) := by
  rintro pins s σ H y x u v Q I ry rx ⟨a, o, rfl, g, q⟩
  cases rx
  exact t_notIn hu I g ry fun s' I' => ⟨.bl (!o.isSome), H, I', rfl, q⟩
end
end Mi

namespace Mi
open PySem PySem.Spec PyProof.Rows L2

/-- what is wished behind a step from p -/
def cont (C : BC) (p : Pt) (Q : VK) : SK := fun x hp' => ∀ v H', I3 C (p.wh hp' H') → KE p (p.wh hp' H') → RepB C (p.wh hp' H') x v → New C p (p.wh hp' H') x v → Q v H'
theorem cont.here {C : BC} {p : Pt} {Q : VK} {x : SV} {v : V} (I : I3 C p) (h : cont C p Q x p.hp) (r : RepB C p x v) (f : New C p p x v) : Q v p.H := h v p.H I (KE.refl p) r f
theorem cont.hereD {C : BC} {p : Pt} {Q : VK} {x : D} {v : V} (I : I3 C p) (h : cont C p Q (.d x) p.hp) (r : RepP C p x v) : Q v p.H := h v p.H I (KE.refl p) r trivial
theorem cont.laidT {C : BC} {p : Pt} {Q : VK} {l : List D} {vs : List V} (I : I3 C p) (h : cont C p Q (.d (.tup l)) p.hp) (r : RepsP C p l vs) {a : Addr} (n : p.H a = none) : Q (.ref a) (upd p.H a (.tup vs)) :=
  h _ _ (I.laid n).1 (I.laid n).2 (I.newT n r) trivial
theorem cont.laidO {C : BC} {p : Pt} {Q : VK} {l : List D} {vs : List V} (I : I3 C p) (h : cont C p Q (.ol l) p.hp) (r : RepsP C p l vs) {a : Addr} (n : p.H a = none) : Q (.ref a) (upd p.H a (.lst vs)) :=
  h _ _ (I.laid n).1 (I.laid n).2 (I.newO n r).1 (I.newO n r).2
theorem cont.back {C : BC} {p p' : Pt} {Q : VK} (k : KE p p') : SKle (cont C p Q) (cont C p' Q) := fun x hp h v H' I k' r f => by
  have e : p.wh hp H' = p'.wh hp H' := by
    obtain ⟨e1, e2, _⟩ := k
    unfold Pt.wh
    rw [e1, e2]
  exact h v H' (by rw [e]; exact I) (by rw [e]; exact k.trans k') (by rw [e]; exact r) (by rw [e]; exact f.back k)

/-! ### binary operators -/
theorem Reps.rep {K : PySem.W.Frag} {mg : Str → Option Value} {H : Hp} {F : Addr → Prop} {l : List D} {vs : List V} (r : Reps K mg H F l vs) : ∀ n : Nat, Reps K mg H F (List.replicate n l).flatten (List.replicate n vs).flatten
  | 0 => .nil
  | n + 1 => by
    rw [List.replicate_succ, List.replicate_succ, List.flatten_cons, List.flatten_cons]
    exact r.append (Reps.rep r n)
def opOf : BOp → Operator
  | .add => .Add | .sub => .Sub | .mul => .Mult | .fdiv => .FloorDiv | .mod => .Mod | .pow => .Pow | .rep => .Mult
section
variable {X : Cx} {C : BC}
theorem RepB.int {p : Pt} {i : Int} {v : V} (r : RepB C p (.d (.int i)) v) : v = .int i := by cases r; rfl
theorem RepB.str {p : Pt} {i : Str} {v : V} (r : RepB C p (.d (.str i)) v) : v = .str i := by cases r; rfl
theorem RepB.bl {p : Pt} {i : Bool} {v : V} (r : RepB C p (.d (.bl i)) v) : v = .bl i := by cases r; rfl
theorem RepB.tup {p : Pt} {l : List D} {v : V} (r : RepB C p (.d (.tup l)) v) : ∃ a vs, v = .ref a ∧ NodeT C.K p.H (Fb C p) a vs ∧ RepsP C p l vs := by
  cases r with
  | tup n t => exact ⟨_, _, rfl, n, t⟩
theorem rep_size (a : Str) : ∀ (k : Nat) (z : Array Nat), ((List.replicate k a.cps).foldl (· ++ ·) z).size = z.size + k * a.length
  | 0, z => by simp
  | k + 1, z => by
    rw [List.replicate_succ, List.foldl_cons, rep_size a k, Array.size_append]
    show z.size + a.length + k * a.length = _
    rw [Nat.succ_mul]; omega
theorem rep_len (a : Str) (k : Nat) : (repS a k).length = k * a.length := by
  show ((List.replicate k a.cps).foldl (· ++ ·) #[]).size = _
  rw [rep_size]; simp
theorem op_repS : OpR X (binaryOp .Mult) (fun x y H Q => ∃ a k, x = .str a ∧ y = .int k ∧ (0 ≤ k ∧ k ≤ 1000 ∧ a.length ≤ 1000) ∧ Q (.str (repS a k.toNat)) H) := by
  rintro pins s σ H x y v u Q I rx ry ⟨a, k, rfl, rfl, ⟨h0, h1, h2⟩, q⟩
  obtain ⟨t, rfl⟩ := rx
  obtain ⟨t2, rfl⟩ := ry
  have hm : a.length * k.toNat ≤ 1000 * 1000 := Nat.mul_le_mul h2 (by omega)
  refine PySem.P.mul_str ?_ (fun c1 c2 => ?_) (fun c1 c2 => ?_) ?_
  · rw [decide_eq_false (by omega), decide_eq_false (by omega)]; rfl
  · have : (1000 : Int) ≤ (2 ^ 63 - 1) / k := by
      rw [Int.le_ediv_iff_mul_le (by omega)]
      omega
    omega
  · unfold Builtin.Str.tooLong
    exact decide_eq_false (by rw [sizeLine_eq]; omega)
  · split
    · have e : k = 0 := by omega
      subst e
      exact ⟨by decide, .str _, H, I.tok _, ⟨_, rfl⟩, q⟩
    · split
      · rename_i c
        have e : repS a k.toNat = a := by
          simp only [Bool.or_eq_true, beq_iff_eq] at c
          rcases c with c | c
          · subst c
            show (⟨#[] ++ a.cps⟩ : Str) = a
            rw [Array.empty_append]
          · have hl : (repS a k.toNat).length = 0 := by rw [rep_len, c]; simp
            have h1 : (repS a k.toNat).cps = #[] := Array.eq_empty_of_size_eq_zero hl
            have h2 : a.cps = #[] := Array.eq_empty_of_size_eq_zero c
            cases a with
            | mk c2 => 
              show (repS ⟨c2⟩ k.toNat) = ⟨c2⟩
              have h2' : c2 = #[] := h2
              rw [h2']
              rw [h2'] at h1
              cases hh : repS ⟨#[]⟩ k.toNat with
              | mk c3 => rw [hh] at h1; rw [show c3 = #[] from h1]
        rw [e] at q
        exact ⟨.str _, H, I, ⟨_, rfl⟩, q⟩
      · refine ⟨?_, .str _, H, I.tok _, ⟨_, rfl⟩, q⟩
        have := rep_len a k.toNat
        show (repS a k.toNat).length ≤ sizeLine
        rw [this, sizeLine_eq, Nat.mul_comm]; omega
/-- what an operator's rule of the layer has to do with ours -/
def OpS (X : Cx) (C : BC) (f : Value → Value → Sem Value) (op : SV → SV → HpD → SK → Prop) : Prop :=
  ∃ r : R2, OpR X f r ∧ ∀ (p : Pt) (x y : SV) (v u : V) (Q : VK), I3 C p → RepB C p x v → RepB C p y u → op x y p.hp (cont C p Q) → r v u p.H Q
theorem opBin_ok (hK : C.K = X.K) (o : BOp) : OpS X C (binaryOp (opOf o)) (opBin o) := by
  cases o with
  | add =>
    refine ⟨_, OpR.or (OpR.or op_add op_add_str) (OpR.or (OpR.or op_catA op_add_bi) op_catL), fun p x y v u Q I rx ry h => ?_⟩
    simp only [opBin] at h
    split at h
    · rw [rx.int, ry.int]
      exact .inl (.inl ⟨_, _, rfl, rfl, h.hereD I (.int _)⟩)
    · rw [rx.str, ry.str]
      exact .inl (.inr ⟨_, _, rfl, rfl, h.1, cont.hereD I h.2 (.str _)⟩)
    · rename_i l m
      obtain ⟨hz, h⟩ := h
      obtain ⟨a, vs, rfl, n1, t1⟩ := rx.tup
      obtain ⟨b, ws, rfl, n2, t2⟩ := ry.tup
      refine .inr (.inl (.inl ⟨a, b, vs, ws, rfl, rfl, by rw [← hK]; exact n1.sq, by rw [← hK]; exact n2.sq, by rw [← t1.length, ← t2.length]; exact hz, fun e => ?_, fun e e2 => ?_, fun _ _ q hq => cont.laidT I h (t1.append t2) hq⟩))
      · subst e
        cases t1
        exact cont.hereD I h (.tup n2 t2)
      · subst e2
        cases t2
        rw [List.append_nil] at h
        exact cont.hereD I h (.tup n1 t1)
    · rw [rx.bl, ry.int]
      exact .inr (.inl (.inr ⟨_, _, rfl, rfl, h.hereD I (.int _)⟩))
    · obtain ⟨l, hl, h⟩ := onSome_iff.mp h
      obtain ⟨m, hm, hz, h⟩ := onSome_iff.mp h
      obtain ⟨a, vs, rfl, s1, t1⟩ := rx.lst I hl
      obtain ⟨b, ws, rfl, s2, t2⟩ := ry.lst I hm
      exact .inr (.inr ⟨a, b, vs, ws, rfl, rfl, by rw [← hK]; exact s1, by rw [← hK]; exact s2, by rw [← t1.length, ← t2.length]; exact hz, fun q hq => cont.laidO I h (t1.append t2) hq⟩)
  | sub =>
    refine ⟨_, OpR.or op_sub (OpR.or op_sub_bi op_sub_ib), fun p x y v u Q I rx ry h => ?_⟩
    simp only [opBin] at h
    split at h
    · rw [rx.int, ry.int]
      exact .inl ⟨_, _, rfl, rfl, h.hereD I (.int _)⟩
    · rw [rx.bl, ry.int]
      exact .inr (.inl ⟨_, _, rfl, rfl, h.hereD I (.int _)⟩)
    · rw [rx.int, ry.bl]
      exact .inr (.inr ⟨_, _, rfl, rfl, h.hereD I (.int _)⟩)
    · exact h.elim
  | mul =>
    refine ⟨_, OpR.or op_mulW op_mul_ib, fun p x y v u Q I rx ry h => ?_⟩
    simp only [opBin] at h
    split at h
    · rw [rx.int, ry.int]
      exact .inl ⟨_, _, rfl, rfl, h.1, cont.hereD I h.2 (.int _)⟩
    · rw [rx.int, ry.bl]
      exact .inr ⟨_, _, rfl, rfl, cont.hereD I h (.int _)⟩
    · exact h.elim
  | fdiv =>
    refine ⟨_, op_fdivW, fun p x y v u Q I rx ry h => ?_⟩
    simp only [opBin] at h
    split at h
    · rw [rx.int, ry.int]
      exact ⟨_, _, rfl, rfl, h.1, cont.hereD I h.2 (.int _)⟩
    · exact h.elim
  | mod =>
    refine ⟨_, op_mod, fun p x y v u Q I rx ry h => ?_⟩
    simp only [opBin] at h
    split at h
    · rw [rx.int, ry.int]
      exact ⟨_, _, rfl, rfl, h.1, cont.hereD I h.2 (.int _)⟩
    · exact h.elim
  | pow =>
    refine ⟨_, op_pow, fun p x y v u Q I rx ry h => ?_⟩
    simp only [opBin] at h
    split at h
    · rw [rx.int, ry.int]
      exact ⟨_, _, rfl, rfl, h.1, cont.hereD I h.2 (.int _)⟩
    · exact h.elim
  | rep =>
    refine ⟨_, OpR.or op_repS (OpR.or op_repT op_rep), fun p x y v u Q I rx ry h => ?_⟩
    simp only [opBin] at h
    split at h
    · rw [rx.str, ry.int]
      exact .inl ⟨_, _, rfl, rfl, h.1, cont.hereD I h.2 (.str _)⟩
    · rename_i l k
      obtain ⟨⟨h1, h2, h3, h4⟩, h⟩ := h
      obtain ⟨a, vs, rfl, n1, t1⟩ := rx.tup
      rw [ry.int]
      refine .inr (.inl ⟨a, k, vs, rfl, rfl, by rw [← hK]; exact n1.sq, fun e => ?_, h1, h2, by rw [← t1.length]; exact h4, fun q hq => cont.laidT I h (Reps.rep t1 _) hq⟩)
      subst e
      cases t1
      exact h3 rfl
    · rename_i l k
      obtain ⟨⟨h1, h2, h3⟩, h⟩ := h
      obtain ⟨a, vs, rfl, h4, h5, h6, h7⟩ := rx
      rw [ry.int]
      have hz : vs.length * k.toNat ≤ sizeLine := by
        rw [← h7.length, sizeLine_eq]
        have h8 : l.length * k.toNat ≤ 1000 * 1000 := Nat.mul_le_mul h3 (by omega)
        omega
      exact .inr (.inr ⟨a, k, vs, rfl, rfl, h4, by omega, by omega, hz, fun q hq => cont.laidO I h (Reps.rep h7 _) hq⟩)
    · exact h.elim

/-! ### comparisons -/
def rEqM (K : PySem.W.Frag) (g : Bool → Bool) : R2 := fun x y H Q => ∃ d e, Dp K H x d ∧ Dp K H y e ∧ d.canLay0 = true ∧ e.canLay0 = true ∧ min d.depth e.depth ≤ 64 ∧ Q (.bl (g (PyData.eqv d e))) H
theorem op_eqM (hu : X.A.units + 66 < cLine) : OpR X (compareOp .Eq) (rEqM X.K id) := by
  rintro pins s σ H x y v u Q I rx ry ⟨d, e, hd, he, cd, ce, hm, q⟩
  obtain ⟨as, r1⟩ := Dp.reads I d x v hd rx
  obtain ⟨bs, r2⟩ := Dp.reads I e y u he ry
  exact SeqAt.compareEq_reads r1 r2 cd ce (by omega) ⟨.bl _, H, I, rfl, q⟩
theorem op_neM (hu : X.A.units + 66 < cLine) : OpR X (compareOp .NotEq) (rEqM X.K not) := by
  rintro pins s σ H x y v u Q I rx ry ⟨d, e, hd, he, cd, ce, hm, q⟩
  obtain ⟨as, r1⟩ := Dp.reads I d x v hd rx
  obtain ⟨bs, r2⟩ := Dp.reads I e y u he ry
  exact SeqAt.compareNe_reads r1 r2 cd ce (by omega) ⟨.bl _, H, I, rfl, q⟩
def rInM (K : PySem.W.Frag) (g : Bool → Bool) : R2 := fun x y H Q => ∃ d es, Dp K H x d ∧ (Dp K H y (.list es) ∨ Dp K H y (.tuple es)) ∧ d.canLay0 = true ∧ PyData.canLayAll0 es = true ∧ d.depth ≤ 60 ∧ Q (.bl (g (es.any fun z => PyData.eqv z d))) H
theorem op_inM (hu : X.A.units + 66 < cLine) : OpR X (compareOp .In) (rInM X.K id) := by
  rintro pins s σ H x y v u Q I rx ry ⟨d, es, hd, he, cd, ce, hm, q⟩
  obtain ⟨as, r1⟩ := Dp.reads I d x v hd rx
  have hr : X.A.units + 1 + min (PyData.depthAll es) d.depth < cLine := by
    have := Nat.min_le_right (PyData.depthAll es) d.depth
    omega
  rcases he with he | he
  · obtain ⟨bs, r2⟩ := Dp.reads I _ y u he ry
    exact SeqAt.in_list_reads r2 r1 ce cd hr ⟨.bl _, H, I, rfl, q⟩
  · obtain ⟨bs, r2⟩ := Dp.reads I _ y u he ry
    exact SeqAt.in_tuple_reads r2 r1 ce cd hr ⟨.bl _, H, I, rfl, q⟩
theorem op_notinM (hu : X.A.units + 66 < cLine) : OpR X (compareOp .NotIn) (rInM X.K not) := by
  rintro pins s σ H x y v u Q I rx ry ⟨d, es, hd, he, cd, ce, hm, q⟩
  obtain ⟨as, r1⟩ := Dp.reads I d x v hd rx
  have hr : X.A.units + 1 + min (PyData.depthAll es) d.depth < cLine := by
    have := Nat.min_le_right (PyData.depthAll es) d.depth
    omega
  rcases he with he | he
  · obtain ⟨bs, r2⟩ := Dp.reads I _ y u he ry
    exact SeqAt.notIn_list_reads r2 r1 ce cd hr ⟨.bl _, H, I, rfl, q⟩
  · obtain ⟨bs, r2⟩ := Dp.reads I _ y u he ry
    exact SeqAt.notIn_tuple_reads r2 r1 ce cd hr ⟨.bl _, H, I, rfl, q⟩
theorem RepB.dseq {p : Pt} {x : SV} {v : V} {es : List PyData} (I : I3 C p) (r : RepB C p x v) (h : (seqD p.hp x).bind D.pds = some es) : (Dp C.K p.H v (.list es) ∨ Dp C.K p.H v (.tuple es)) ∧ PyData.canLayAll0 es = true := by
  obtain ⟨l, h1, h2⟩ := Option.bind_eq_some_iff.mp h
  obtain ⟨a, vs, rfl, s, t⟩ := r.seq I h1
  refine ⟨?_, D.pds_lay h2⟩
  rcases s with s | s
  · exact .inl (.lst s (t.dp h2))
  · exact .inr (.tup s (t.dp h2))
theorem one_sign {c : Str} (h : c.length = 1) : c = ⟨#[c.cps.getD 0 0]⟩ := by
  obtain ⟨⟨l⟩⟩ := c
  match l, h with
  | [n], _ => rfl
def cOf : COp → CmpOp
  | .eq => .Eq | .ne => .NotEq | .lt => .Lt | .le => .LtE | .gt => .Gt | .ge => .GtE | .isn => .Is | .isnotn => .IsNot | .inn => .In | .notin => .NotIn
/-- as OpS, where the right one is None for is, is not -/
def CmpS (X : Cx) (C : BC) (o : COp) : Prop :=
  ∃ r : R2, OpR X (compareOp (cOf o)) r ∧ ∀ (p : Pt) (x y : SV) (v u : V) (Q : VK), I3 C p → RepB C p x v → RepB C p y u → ((o = .isn ∨ o = .isnotn) → u = .non) → (opCmp o x y p.hp fun b => Q (.bl b) p.H) → r v u p.H Q
theorem non_iff {p : Pt} {x : SV} {v : V} (r : RepB C p x v) : (v = .non) ↔ x = .d .non := by
  cases x with
  | od l => exact r.elim
  | ol l => obtain ⟨a, vs, rfl, _⟩ := r; exact ⟨fun z => (by cases z), fun z => (by cases z)⟩
  | d x =>
    cases r
    case non => exact ⟨fun _ => rfl, fun _ => rfl⟩
    all_goals
      constructor
      · intro z
        cases z
      · intro z
        cases z
theorem decV_int (i j : Int) : decide (V.int i = V.int j) = decide (i = j) := decide_eq_decide.mpr ⟨fun e => by cases e; rfl, fun e => by rw [e]⟩
theorem decV_str (i j : Str) : decide (V.str i = V.str j) = decide (i = j) := decide_eq_decide.mpr ⟨fun e => by cases e; rfl, fun e => by rw [e]⟩
theorem opCmp_ok (hK : C.K = X.K) (hw : C.pw = (X.prog, X.w)) (hu : X.A.units + 66 < cLine) (o : COp) : CmpS X C o := by
  cases o with
  | eq =>
    refine ⟨_, OpR.or op_eq (op_eqM hu), fun p x y v u Q I rx ry _ h => ?_⟩
    simp only [opCmp, opEq] at h
    split at h
    · rw [rx.int, ry.int]
      refine .inl ⟨rfl, ?_⟩
      rw [decV_int]
      exact h
    · rw [rx.str, ry.str]
      refine .inl ⟨rfl, ?_⟩
      rw [decV_str]
      exact h
    obtain ⟨d, e1, h⟩ := onSome_iff.mp h
    obtain ⟨e, e2, hm, h⟩ := onSome_iff.mp h
    obtain ⟨d1, c1⟩ := rx.dp I e1
    obtain ⟨d2, c2⟩ := ry.dp I e2
    rw [hK] at d1 d2
    exact .inr ⟨d, e, d1, d2, c1, c2, hm, h⟩
  | ne =>
    refine ⟨_, OpR.or op_ne (op_neM hu), fun p x y v u Q I rx ry _ h => ?_⟩
    simp only [opCmp, opEq] at h
    split at h
    · rw [rx.int, ry.int]
      refine .inl ⟨rfl, ?_⟩
      rw [decV_int]
      exact h
    · rw [rx.str, ry.str]
      refine .inl ⟨rfl, ?_⟩
      rw [decV_str]
      exact h
    obtain ⟨d, e1, h⟩ := onSome_iff.mp h
    obtain ⟨e, e2, hm, h⟩ := onSome_iff.mp h
    obtain ⟨d1, c1⟩ := rx.dp I e1
    obtain ⟨d2, c2⟩ := ry.dp I e2
    rw [hK] at d1 d2
    exact .inr ⟨d, e, d1, d2, c1, c2, hm, h⟩
  | lt =>
    refine ⟨_, OpR.or op_lt op_lt_str, fun p x y v u Q I rx ry _ h => ?_⟩
    simp only [opCmp, opLt] at h
    split at h
    · rw [rx.int, ry.int]; exact .inl ⟨_, _, rfl, rfl, h⟩
    · rw [rx.str, ry.str]; exact .inr ⟨_, _, rfl, rfl, h⟩
    · exact h.elim
  | le =>
    refine ⟨_, OpR.or op_le op_le_str, fun p x y v u Q I rx ry _ h => ?_⟩
    simp only [opCmp, opLe] at h
    split at h
    · rw [rx.int, ry.int]; exact .inl ⟨_, _, rfl, rfl, h⟩
    · rw [rx.str, ry.str]; exact .inr ⟨_, _, rfl, rfl, h⟩
    · exact h.elim
  | gt =>
    refine ⟨_, OpR.or op_gt op_gt_str, fun p x y v u Q I rx ry _ h => ?_⟩
    simp only [opCmp, opLt] at h
    split at h
    · rw [rx.int, ry.int]; exact .inl ⟨_, _, rfl, rfl, h⟩
    · rw [rx.str, ry.str]; exact .inr ⟨_, _, rfl, rfl, h⟩
    · exact h.elim
  | ge =>
    refine ⟨_, OpR.or op_ge op_ge_str, fun p x y v u Q I rx ry _ h => ?_⟩
    simp only [opCmp, opLe] at h
    split at h
    · rw [rx.int, ry.int]; exact .inl ⟨_, _, rfl, rfl, h⟩
    · rw [rx.str, ry.str]; exact .inr ⟨_, _, rfl, rfl, h⟩
    · exact h.elim
  | isn =>
    refine ⟨_, op_isN, fun p x y v u Q I rx ry hu h => ?_⟩
    refine ⟨hu (.inl rfl), ?_⟩
    have hy := (non_iff ry).mp (hu (.inl rfl))
    subst hy
    simp only [opCmp] at h
    split at h
    · rw [decide_eq_true ((non_iff rx).mpr rfl)]; exact h
    · rename_i hne
      rw [decide_eq_false fun z => hne ((non_iff rx).mp z)]; exact h
  | isnotn =>
    refine ⟨_, op_notN, fun p x y v u Q I rx ry hu h => ?_⟩
    refine ⟨hu (.inr rfl), ?_⟩
    have hy := (non_iff ry).mp (hu (.inr rfl))
    subst hy
    simp only [opCmp] at h
    split at h
    · rw [decide_eq_true ((non_iff rx).mpr rfl)]; exact h
    · rename_i hne
      rw [decide_eq_false fun z => hne ((non_iff rx).mp z)]; exact h
  | inn =>
    refine ⟨_, OpR.or (OpR.or (op_inM hu) op_in_sign) (op_inT (by omega)), fun p x y v u Q I rx ry _ h => ?_⟩
    simp only [opCmp, opIn] at h
    split at h
    · obtain ⟨a, o, od, rfl, g, h, ro⟩ := dictG_ok hK hw I ry rx h
      rw [ro.isSome] at h
      exact .inr ⟨a, o, rfl, g, h⟩
    split at h
    · rw [rx.str, ry.str]
      exact .inl (.inr ⟨_, _, congrArg V.str (one_sign h.1), rfl, h.2⟩)
    · obtain ⟨d, e1, h⟩ := onSome_iff.mp h
      obtain ⟨es, e2, hm, h⟩ := onSome_iff.mp h
      obtain ⟨d1, c1⟩ := rx.dp I e1
      obtain ⟨d2, c2⟩ := ry.dseq I e2
      rw [hK] at d1 d2
      exact .inl (.inl ⟨d, es, d1, d2, c1, c2, hm, h⟩)
  | notin =>
    refine ⟨_, OpR.or (OpR.or (op_notinM hu) op_notIn_sign) (op_notInT (by omega)), fun p x y v u Q I rx ry _ h => ?_⟩
    simp only [opCmp, opIn] at h
    split at h
    · obtain ⟨a, o, od, rfl, g, h, ro⟩ := dictG_ok hK hw I ry rx h
      rw [ro.isSome] at h
      exact .inr ⟨a, o, rfl, g, h⟩
    split at h
    · rw [rx.str, ry.str]
      exact .inl (.inr ⟨_, _, congrArg V.str (one_sign h.1), rfl, h.2⟩)
    · obtain ⟨d, e1, h⟩ := onSome_iff.mp h
      obtain ⟨es, e2, hm, h⟩ := onSome_iff.mp h
      obtain ⟨d1, c1⟩ := rx.dp I e1
      obtain ⟨d2, c2⟩ := ry.dseq I e2
      rw [hK] at d1 d2
      exact .inl (.inl ⟨d, es, d1, d2, c1, c2, hm, h⟩)
end
end Mi

namespace Mi
open PySem PySem.Spec PyProof.Rows L2
/-! ### max and min of a tuple of ints -/
section
variable {prog : Program} {w : World} {A : Around} {E : Value → Shared → Prop} {s : Shared} {l : Addr} {xs : Array (Int × Tok)} {its : List Value} {ns : List Int} {Q : Value → Shared → Prop}
theorem iter_intTup {Q : Value → Shared → Prop} (hl : s.heap.IsTuple l (intItems xs))
    (h : ∀ s₂ : Shared, s₂ = { s with heap := s.heap.push { cls := .type "tuple_iterator", data := .fields #[.ref l, .int 0 0] } } →
      (s₂.heap.IsTupleIter s.heap.objs.size l 0 ∧ s₂.heap.IsTuple l (intItems xs)) → (∀ b ∈ [s.heap.objs.size, l], b < s₂.heap.objs.size) → l ≠ s.heap.objs.size → Q (.ref s.heap.objs.size) s₂) :
    wpAny (model prog w) A (pyIter (.ref l)) Q E s := by
  have hlt : l < s.heap.objs.size := by obtain ⟨_, e, _⟩ := hl; exact Heap.lt_size e
  refine wpAny_pyIter_tuple hl (h _ rfl ⟨⟨_, Heap.get?_push_size _ rfl, rfl, rfl⟩, hl.push _⟩ (fun b hb => ?_) (Nat.ne_of_lt hlt))
  show b < (s.heap.push _).objs.size
  rw [Heap.size_push]
  rcases List.mem_cons.mp hb with rfl | hb
  · exact Nat.lt_succ_self _
  · rcases List.mem_cons.mp hb with rfl | hb
    · exact Nat.lt_succ_of_lt hlt
    · cases hb
theorem old_keptT {o0 : Obj} {h' : Heap} (hk : ∀ b o, b ∉ [s.heap.objs.size] → (s.heap.push o0).get? b = some o → h'.get? b = some o) :
    ∀ b o, s.heap.get? b = some o → h'.get? b = some o := fun b o e => by
  refine hk b o (fun hm => ?_) (Heap.get?_push_of_some _ e)
  rcases List.mem_cons.mp hm with e1 | hm
  · exact absurd (e1 ▸ Heap.lt_size e) (Nat.lt_irrefl _)
  · cases hm

theorem max_intTup {Q : Value → Shared → Prop} (hh : A.handled = none) (hl : s.heap.IsTuple l (intItems xs)) (hne : 0 < xs.size)
    (h : ∀ v h' tk, (intItems xs)[argBest (fun i j => decide (numAt xs i > numAt xs j)) (xs.size - 1)]? = some v → (∀ b o, s.heap.get? b = some o → h'.get? b = some o) → Q v { s with heap := h', toks := tk }) :
    wpAny (model prog w) A (call (.builtin "max") [.ref l]) Q E s := by
  refine call_max_walk (iter_intTup hl fun s₂ e st hfp hlI => ?_)
  subst e
  refine ⟨_, _, _, _, _, _, _, rfl, Walks.tuple (A := A.in1) hh _ l hlI (intItems xs), st, hfp, by simpa [intItems] using hne, CmpOf.ints_gt (numAt xs) (fun _ _ => intItems_at), fun v h' tk hP hk => ?_⟩
  exact h v h' tk (by simpa [intItems] using hP) (old_keptT hk)
theorem max_rawT (hh : A.handled = none) (hl : s.heap.IsTuple l its.toArray) (hi : IntsAre its ns) (hne : 0 < ns.length)
    (h : ∀ h' tk M t', (∀ b o, s.heap.get? b = some o → h'.get? b = some o) → M ∈ ns → (∀ a, a ∈ ns → a ≤ M) → Q (.int M t') { s with heap := h', toks := tk }) : wpAny (model prog w) A (call (.builtin "max") [.ref l]) Q E s := by
  obtain ⟨xs, e⟩ := hi.allInts.items
  have hn : numsOf (intItems xs).toList = ns := by rw [← e]; exact hi.numsOf
  rw [nums_intItems] at hn
  subst hn
  rw [e] at hl
  have hsz : 0 < xs.size := by simpa using hne
  refine max_intTup hh hl hsz fun v h' tk hv hk => ?_
  obtain ⟨t, rfl⟩ := intItems_at hv
  obtain ⟨h1, h2⟩ := argBest_gt (numAt xs) (xs.size - 1)
  refine h h' tk _ t hk ?_ fun a ha => ?_
  · rw [numAt_eq]; exact PySem.getD_mem (by rw [List.length_map, Array.length_toList]; omega)
  · obtain ⟨j, hj, rfl⟩ := mem_getD ha
    rw [List.length_map, Array.length_toList] at hj
    rw [← numAt_eq]; exact h2 j (by omega)

theorem min_intTup {Q : Value → Shared → Prop} (hh : A.handled = none) (hl : s.heap.IsTuple l (intItems xs)) (hne : 0 < xs.size)
    (h : ∀ v h' tk, (intItems xs)[argBest (fun i j => decide (numAt xs i < numAt xs j)) (xs.size - 1)]? = some v → (∀ b o, s.heap.get? b = some o → h'.get? b = some o) → Q v { s with heap := h', toks := tk }) :
    wpAny (model prog w) A (call (.builtin "min") [.ref l]) Q E s := by
  refine call_min_walk (iter_intTup hl fun s₂ e st hfp hlI => ?_)
  subst e
  refine ⟨_, _, _, _, _, _, _, rfl, Walks.tuple (A := A.in1) hh _ l hlI (intItems xs), st, hfp, by simpa [intItems] using hne, CmpOf.ints_lt (numAt xs) (fun _ _ => intItems_at), fun v h' tk hP hk => ?_⟩
  exact h v h' tk (by simpa [intItems] using hP) (old_keptT hk)
theorem min_rawT (hh : A.handled = none) (hl : s.heap.IsTuple l its.toArray) (hi : IntsAre its ns) (hne : 0 < ns.length)
    (h : ∀ h' tk M t', (∀ b o, s.heap.get? b = some o → h'.get? b = some o) → M ∈ ns → (∀ a, a ∈ ns → M ≤ a) → Q (.int M t') { s with heap := h', toks := tk }) : wpAny (model prog w) A (call (.builtin "min") [.ref l]) Q E s := by
  obtain ⟨xs, e⟩ := hi.allInts.items
  have hn : numsOf (intItems xs).toList = ns := by rw [← e]; exact hi.numsOf
  rw [nums_intItems] at hn
  subst hn
  rw [e] at hl
  have hsz : 0 < xs.size := by simpa using hne
  refine min_intTup hh hl hsz fun v h' tk hv hk => ?_
  obtain ⟨t, rfl⟩ := intItems_at hv
  obtain ⟨h1, h2⟩ := argBest_lt (numAt xs) (xs.size - 1)
  refine h h' tk _ t hk ?_ fun a ha => ?_
  · rw [numAt_eq]; exact PySem.getD_mem (by rw [List.length_map, Array.length_toList]; omega)
  · obtain ⟨j, hj, rfl⟩ := mem_getD ha
    rw [List.length_map, Array.length_toList] at hj
    rw [← numAt_eq]; exact h2 j (by omega)
end
section
variable {X : Cx}

def rMaxT (K : PySem.W.Frag) : List V → Hp → VK → Prop := fun vs H Q => ∃ (a : Addr) (ns : List Int), vs = [V.ref a] ∧ SqT K H a (ns.map V.int) ∧ 0 < ns.length ∧ ∀ m, m ∈ ns → (∀ y, y ∈ ns → y ≤ m) → Q (.int m) H
theorem cr_maxT (hc : X.calm = true) : CallR X (.builtin "max") (rMaxT X.K) := by
  intro pins s σ H vs us Q I r h
  obtain ⟨a, ns, rfl, hs, hne, q⟩ := h
  obtain ⟨its, rv, hl, _⟩ := I.tuple hs
  have pT : s.heap.IsTuple a its.toArray := hl
  rw [Vals.ref1 r]
  exact max_rawT (I.ok.hd hc) pT rv.ints hne fun h' tk m t' hk h1 h2 => ⟨.int _, H, I.kept hk, ⟨_, rfl⟩, q m h1 h2⟩

def rMinT (K : PySem.W.Frag) : List V → Hp → VK → Prop := fun vs H Q => ∃ (a : Addr) (ns : List Int), vs = [V.ref a] ∧ SqT K H a (ns.map V.int) ∧ 0 < ns.length ∧ ∀ m, m ∈ ns → (∀ y, y ∈ ns → m ≤ y) → Q (.int m) H
theorem cr_minT (hc : X.calm = true) : CallR X (.builtin "min") (rMinT X.K) := by
  intro pins s σ H vs us Q I r h
  obtain ⟨a, ns, rfl, hs, hne, q⟩ := h
  obtain ⟨its, rv, hl, _⟩ := I.tuple hs
  have pT : s.heap.IsTuple a its.toArray := hl
  rw [Vals.ref1 r]
  exact min_rawT (I.ok.hd hc) pT rv.ints hne fun h' tk m t' hk h1 h2 => ⟨.int _, H, I.kept hk, ⟨_, rfl⟩, q m h1 h2⟩
end
end Mi

namespace Mi
open PySem PySem.Spec PyProof.Rows L2

theorem lexI_app : ∀ (p l m : List Int), lexI (p ++ l) (p ++ m) = lexI l m
  | [], l, m => rfl
  | a :: p, l, m => by simp [lexI, lexI_app p l m]
theorem lex_str : ∀ (s t : List Nat) (l m : List Int), lexI ((s.map fun c => ((c : Nat) : Int) + 1) ++ 0 :: l) ((t.map fun c => ((c : Nat) : Int) + 1) ++ 0 :: m) = if s = t then lexI l m else decide (s < t)
  | [], [], l, m => by simp [lexI]
  | [], d :: t, l, m => by
    have : (0 : Int) < ((d : Nat) : Int) + 1 := by omega
    simp [lexI, this]
  | c :: s, [], l, m => by
    have h1 : ¬ ((c : Nat) : Int) + 1 < 0 := by omega
    have h2 : ¬ ((c : Nat) : Int) + 1 = 0 := by omega
    simp [lexI, h1, h2]
  | c :: s, d :: t, l, m => by
    have ih := lex_str s t l m
    simp only [List.map_cons, List.cons_append, lexI, ih]
    by_cases e : c = d
    · subst e
      by_cases e2 : s = t
      · subst e2; simp
      · simp [e2]
    · have e3 : ¬ ((c : Nat) : Int) + 1 = ((d : Nat) : Int) + 1 := by omega
      have e4 : (((c : Nat) : Int) + 1 < ((d : Nat) : Int) + 1) ↔ c < d := by omega
      simp only [e3, decide_false, Bool.false_and, Bool.or_false, List.cons.injEq, e, false_and, if_false, e4]
      exact decide_eq_decide.mpr ⟨fun h => List.cons_lt_cons_iff.mpr (.inl h), fun h => (List.cons_lt_cons_iff.mp h).elim id fun z => (e z.1).elim⟩
mutual
theorem lex_enc : ∀ (a b : PyData) (l m : List Int), cmpb a b = true → lexI (enc a ++ l) (enc b ++ m) = if PyData.eqv a b = true then lexI l m else ltP a b
  | .int i, b, l, m, h => by
    cases b <;> first | cases h | skip
    rename_i j
    by_cases e : i = j <;> simp [enc, lexI, PyData.eqv, ltP, e]
  | .bool i, b, l, m, h => by
    cases b <;> first | cases h | skip
    rename_i j
    cases i <;> cases j <;> simp [enc, lexI, PyData.eqv, ltP]
  | .str s, b, l, m, h => by
    cases b <;> first | cases h | skip
    rename_i t
    have e : (s == t) = decide (s.cps.toList = t.cps.toList) := by
      by_cases q : s = t
      · subst q; simp
      · have : s.cps.toList ≠ t.cps.toList := fun z => q (by cases s; cases t; simp at z; simp [z])
        simp [q, this]
    have h1 := lex_str s.cps.toList t.cps.toList l m
    have h2 := lex_str s.cps.toList t.cps.toList [] []
    simp only [enc, PyData.eqv, ltP, e, List.append_assoc, List.cons_append, List.nil_append, h1, decide_eq_true_eq] at h1 h2 ⊢
    rw [h2]
    by_cases q : s.cps.toList = t.cps.toList <;> simp [q]
  | .tuple xs, b, l, m, h => by
    cases b <;> first | cases h | skip
    rename_i ys
    have h' : cmpbs xs ys = true := h
    have h1 := lex_encs xs ys l m h'
    have h2 := lex_encs xs ys [] [] h'
    simp only [enc, PyData.eqv, ltP, List.append_assoc, List.cons_append, List.nil_append]
    rw [h1, h2]
    by_cases q : PyData.eqvAll xs ys = true
    · simp [q]
    · simp [q]
  | .none, b, l, m, h => by cases h
  | .list _, b, l, m, h => by cases h
  | .dict _, b, l, m, h => by cases h
theorem lex_encs : ∀ (xs ys : List PyData) (l m : List Int), cmpbs xs ys = true → lexI (encs xs ++ 0 :: l) (encs ys ++ 0 :: m) = if PyData.eqvAll xs ys = true then lexI l m else lexI (encs xs ++ [0]) (encs ys ++ [0])
  | [], [], l, m, _ => by simp [encs, lexI, PyData.eqvAll]
  | [], y :: ys, l, m, _ => by simp [encs, lexI, PyData.eqvAll]
  | x :: xs, [], l, m, _ => by simp [encs, lexI, PyData.eqvAll]
  | x :: xs, y :: ys, l, m, h => by
    simp only [cmpbs, Bool.and_eq_true] at h
    have i1 := lex_enc x y (encs xs ++ 0 :: l) (encs ys ++ 0 :: m) h.1
    have i2 := lex_enc x y (encs xs ++ [0]) (encs ys ++ [0]) h.1
    have i3 := lex_encs xs ys l m h.2
    simp only [encs, List.cons_append, List.append_assoc, lexI, PyData.eqvAll, i1, i2, i3]
    by_cases q : PyData.eqv x y = true
    · by_cases q2 : PyData.eqvAll xs ys = true
      · simp [q, q2]
      · simp [q, q2]
    · simp [q]
end
/-- how tuples compare: from place to place -/
theorem ltP_tuple (xs ys : List PyData) (h : cmpbs xs ys = true) : ∀ i, i ≤ xs.length → i ≤ ys.length → (∀ j, j < i → PyData.eqv (xs.getD j .none) (ys.getD j .none) = true) → ∀ n, n = min xs.length ys.length - i →
    lexI (encs (xs.drop i) ++ [0]) (encs (ys.drop i) ++ [0]) = Ob.lexAt (fun j => PyData.eqv (xs.getD j .none) (ys.getD j .none)) (fun j => ltP (xs.getD j .none) (ys.getD j .none)) (decide (xs.length < ys.length)) i n
  | i, h1, h2, h3, 0, e => by
    rw [Ob.lexAt_zero]
    by_cases q : i = xs.length
    · rw [q, List.drop_length]
      by_cases q2 : xs.length < ys.length
      · obtain ⟨y, r, e2⟩ : ∃ y r, ys.drop xs.length = y :: r := by
          cases z : ys.drop xs.length with
          | nil => have := congrArg List.length z; simp at this; omega
          | cons y r => exact ⟨y, r, rfl⟩
        rw [e2, decide_eq_true q2]
        simp [encs, lexI]
      · have : xs.length = ys.length := by omega
        rw [decide_eq_false q2, this, List.drop_length]
        simp [encs, lexI]
    · have q1 : i = ys.length := by omega
      obtain ⟨y, r, e2⟩ : ∃ y r, xs.drop i = y :: r := by
        cases z : xs.drop i with
        | nil => have := congrArg List.length z; simp at this; omega
        | cons y r => exact ⟨y, r, rfl⟩
      rw [e2, q1, List.drop_length, decide_eq_false (by omega)]
      simp [encs, lexI]
  | i, h1, h2, h3, n + 1, e => by
    have l1 : i < xs.length := by omega
    have l2 : i < ys.length := by omega
    rw [Ob.lexAt_succ]
    have d1 : xs.drop i = xs[i] :: xs.drop (i + 1) := List.drop_eq_getElem_cons l1
    have d2 : ys.drop i = ys[i] :: ys.drop (i + 1) := List.drop_eq_getElem_cons l2
    have g1 : xs.getD i .none = xs[i] := by simp [List.getD, l1]
    have g2 : ys.getD i .none = ys[i] := by simp [List.getD, l2]
    have hc : cmpb xs[i] ys[i] = true := by
      clear d1 d2 g1 g2 e h3 h1 h2
      induction i generalizing xs ys with
      | zero =>
        match xs, ys, l1, l2, h with
        | x :: xs, y :: ys, _, _, h => simp only [cmpbs, Bool.and_eq_true] at h; exact h.1
      | succ i ih =>
        match xs, ys, l1, l2, h with
        | x :: xs, y :: ys, l1, l2, h =>
          simp only [cmpbs, Bool.and_eq_true] at h
          exact ih xs ys h.2 (by simpa using l1) (by simpa using l2)
    rw [g1, g2, d1, d2]
    simp only [encs, List.cons_append, List.append_assoc, lexI]
    rw [lex_enc _ _ _ _ hc]
    by_cases q : PyData.eqv xs[i] ys[i] = true
    · have ih := ltP_tuple xs ys h (i + 1) (by omega) (by omega) (fun j hj => by
        by_cases e : j = i
        · rw [e, g1, g2]; exact q
        · exact h3 j (by omega)) n (by omega)
      simp only [q, if_true, ih]
      simp
    · simp [q]

/-! ### as values compare -/
theorem readsAll_at {h : Heap} : ∀ (vs : List Value) (ds : List PyData) (as : List Addr), ReadsAll h vs ds as → PyData.canLayAll0 ds = true → ∀ j (h1 : j < vs.length), ∃ bs, Reads h vs[j] (ds.getD j .none) bs ∧ (ds.getD j .none).canLay0 = true ∧ (ds.getD j .none).depth ≤ PyData.depthAll ds ∧ j < ds.length
  | _, _, _, .nil, _, j, h1 => by simp at h1
  | v :: vs, d :: ds, _, .cons r t, c, 0, h1 => by
    simp only [PyData.canLayAll0, Bool.and_eq_true] at c
    exact ⟨_, r, c.1, Nat.le_max_left _ _, by simp⟩
  | v :: vs, d :: ds, _, .cons r t, c, j + 1, h1 => by
    simp only [PyData.canLayAll0, Bool.and_eq_true] at c
    obtain ⟨bs, q1, q2, q3, q4⟩ := readsAll_at vs ds _ t c.2 j (by simpa using h1)
    exact ⟨bs, by simpa using q1, by simpa using q2, by simp only [List.getD_cons_succ, PyData.depthAll]; exact Nat.le_trans q3 (Nat.le_max_right _ _), by simp; omega⟩
theorem cmpbs_at : ∀ (xs ys : List PyData), cmpbs xs ys = true → ∀ j, j < xs.length → j < ys.length → cmpb (xs.getD j .none) (ys.getD j .none) = true
  | [], _, _, j, h1, _ => by simp at h1
  | _ :: _, [], _, j, _, h2 => by simp at h2
  | x :: xs, y :: ys, h, 0, _, _ => by simp only [cmpbs, Bool.and_eq_true] at h; exact h.1
  | x :: xs, y :: ys, h, j + 1, h1, h2 => by
    simp only [cmpbs, Bool.and_eq_true] at h
    exact cmpbs_at xs ys h.2 j (by simpa using h1) (by simpa using h2)
theorem ltP_str (x y : Str) : ltP (.str x) (.str y) = decide (x.cps.toList < y.cps.toList) := by
  have h := lex_str x.cps.toList y.cps.toList [] []
  simp only [ltP, enc, h]
  by_cases e : x.cps.toList = y.cps.toList
  · rw [e]; simp [lexI]
  · simp [e]
theorem ltP_int (i j : Int) : ltP (.int i) (.int j) = decide (i < j) := by simp [ltP, enc, lexI]
theorem ltP_bool (i j : Bool) : ltP (.bool i) (.bool j) = decide ((if i = true then (1 : Int) else 0) < (if j = true then (1 : Int) else 0)) := by simp [ltP, enc, lexI]
theorem ltP_tup (xs ys : List PyData) (h : cmpbs xs ys = true) : ltP (.tuple xs) (.tuple ys) = Ob.lexAt (fun j => PyData.eqv (xs.getD j .none) (ys.getD j .none)) (fun j => ltP (xs.getD j .none) (ys.getD j .none)) (decide (xs.length < ys.length)) 0 (min xs.length ys.length) :=
  ltP_tuple xs ys h 0 (Nat.zero_le _) (Nat.zero_le _) (fun j hj => absurd hj (Nat.not_lt_zero j)) _ rfl
/-- the parts of two tuples compare -/
structure TupPair (A : Around) (s : Shared) (l b : Addr) (items items2 : Array Value) (xs ys : List PyData) : Prop where
  hl : s.heap.IsTuple l items
  hb : s.heap.IsTuple b items2
  n1 : items.size = xs.length
  n2 : items2.size = ys.length
  he : ∀ j (h1 : j < items.size) (h2 : j < items2.size), SeqAt.EqAt A s items[j] items2[j] (PyData.eqv (xs.getD j .none) (ys.getD j .none))
  hr : ∀ j (h1 : j < items.size) (h2 : j < items2.size), Ob.RcOp .Lt A s items[j] items2[j] (ltP (xs.getD j .none) (ys.getD j .none))
theorem tup_pair {A : Around} {s : Shared} {v u : Value} {as bs : List Addr} {xs ys : List PyData} (ra : Reads s.heap v (.tuple xs) as) (rb : Reads s.heap u (.tuple ys) bs) (ca : (PyData.tuple xs).canLay0 = true) (cb : (PyData.tuple ys).canLay0 = true)
    (hc : cmpbs xs ys = true) (hu : A.units + min (PyData.depthAll xs) (PyData.depthAll ys) < cLine)
    (ih : ∀ (x y : PyData) (v u : Value) (as bs : List Addr), x ∈ xs → Reads s.heap v x as → Reads s.heap u y bs → x.canLay0 = true → y.canLay0 = true → cmpb x y = true → A.units + min x.depth y.depth < cLine → Ob.RcOp .Lt A s v u (ltP x y)) :
    ∃ l b items items2, v = .ref l ∧ u = .ref b ∧ TupPair A s l b items items2 xs ys := by
  cases ra with
  | @tuple a o vs n _ _ g c d t =>
    cases rb with
    | @tuple a2 o2 vs2 n2 _ _ g2 c2 d2 t2 =>
      have l1 := SeqAt.ReadsAll.length _ _ _ t
      have l2 := SeqAt.ReadsAll.length _ _ _ t2
      rw [Array.length_toList] at l1 l2
      refine ⟨a, a2, vs, vs2, rfl, rfl, ⟨⟨o, g, c, n, d⟩, ⟨o2, g2, c2, n2, d2⟩, l1, l2, fun j h1 h2 => ?_, fun j h1 h2 => ?_⟩⟩
      · obtain ⟨as1, q1, q2, q3, q4⟩ := readsAll_at _ _ _ t (by simpa [PyData.canLay0] using ca) j (by simpa using h1)
        obtain ⟨as2, p1, p2, p3, p4⟩ := readsAll_at _ _ _ t2 (by simpa [PyData.canLay0] using cb) j (by simpa using h2)
        rw [Array.getElem_toList] at q1 p1
        exact SeqAt.eqAt_reads _ _ A s _ _ _ _ q1 p1 q2 p2 (by omega)
      · obtain ⟨as1, q1, q2, q3, q4⟩ := readsAll_at _ _ _ t (by simpa [PyData.canLay0] using ca) j (by simpa using h1)
        obtain ⟨as2, p1, p2, p3, p4⟩ := readsAll_at _ _ _ t2 (by simpa [PyData.canLay0] using cb) j (by simpa using h2)
        rw [Array.getElem_toList] at q1 p1
        have mem : xs.getD j .none ∈ xs := by
          have : xs.getD j .none = xs[j] := by simp [List.getD, q4]
          rw [this]; exact List.getElem_mem q4
        exact ih _ _ _ _ _ _ mem q1 p1 q2 p2 (cmpbs_at xs ys hc j q4 p4) (by omega)
theorem rc_lt : ∀ (a b : PyData) (A : Around) (s : Shared) (v u : Value) (as bs : List Addr), Reads s.heap v a as → Reads s.heap u b bs → a.canLay0 = true → b.canLay0 = true → cmpb a b = true → A.units + min a.depth b.depth < cLine → Ob.RcOp .Lt A s v u (ltP a b)
  | .int i, b, A, s, v, u, as, bs, ra, rb, ca, cb, hc, hu => by
    cases b <;> first | cases hc | skip
    cases ra; cases rb
    rw [ltP_int]; exact Ob.RcOp.lt_int _ _ _ _
  | .bool i, b, A, s, v, u, as, bs, ra, rb, ca, cb, hc, hu => by
    cases b <;> first | cases hc | skip
    cases ra; cases rb
    rw [ltP_bool]
    exact fun prog w E Q h => PyProof.Rows.lt_bool h
  | .str i, b, A, s, v, u, as, bs, ra, rb, ca, cb, hc, hu => by
    cases b <;> first | cases hc | skip
    cases ra; cases rb
    rw [ltP_str]
    exact fun prog w E Q h => PyProof.Rows.lt_str h
  | .tuple xs, b, A, s, v, u, as, bs, ra, rb, ca, cb, hc, hu => by
    cases b <;> first | cases hc | skip
    rename_i ys
    have hc' : cmpbs xs ys = true := hc
    simp only [PyData.depth] at hu
    obtain ⟨l, b, items, items2, rfl, rfl, T⟩ := tup_pair (A := A.in1) ra rb ca cb hc' (by show A.units + 1 + _ < _; omega) (fun x y v u as bs hm r1 r2 c1 c2 c3 hu' => rc_lt x y A.in1 s v u as bs r1 r2 c1 c2 c3 hu')
    rw [ltP_tup xs ys hc', ← T.n1, ← T.n2]
    exact Ob.RcOp.tuples_lt T.hl T.hb (by omega) (fun j h1 h2 => T.he j h1 h2) (fun j h1 h2 _ => T.hr j h1 h2)
  | .none, b, _, _, _, _, _, _, _, _, _, _, hc, _ => by cases hc
  | .list _, b, _, _, _, _, _, _, _, _, _, _, hc, _ => by cases hc
  | .dict _, b, _, _, _, _, _, _, _, _, _, _, hc, _ => by cases hc
section
variable {prog : Program} {w : World} {A : Around} {E : Value → Shared → Prop} {s : Shared}
theorem oneLt_bool {a b : Bool} {Q : Bool → Shared → Prop} (h : Q (decide ((if a = true then (1 : Int) else 0) < (if b = true then (1 : Int) else 0))) s) : wpAny (model prog w) A (oneLt' true (.bool a) (.bool b)) Q E s := by
  rw [oneLt'_eq]
  simp only [if_true]
  refine wpAny_bind (wpAny_cRoomFor_byValue rfl ?_)
  refine wpAny_bind (wpAny_callSpecialIfBound?_slot (typeIs_bool' s a) F.slot_bool_lt (call_gives F.slot_bool_lt (typeIs_bool' s a) F.entry_int_lt (F.args_int_lt_2 _ _) (gives_int_lt_bools a b) ?_))
  exact wpAny_truthy_bool h
theorem oneLt_data (c : Bool) {a b : PyData} {v u : Value} {as bs : List Addr} {Q : Bool → Shared → Prop} (ra : Reads s.heap v a as) (rb : Reads s.heap u b bs) (ca : a.canLay0 = true) (cb : b.canLay0 = true) (hc : cmpb a b = true)
    (hu : A.units + 1 + min a.depth b.depth < cLine) (h : Q (ltP a b) s) : wpAny (model prog w) A (oneLt' c v u) Q E s := by
  cases c with
  | false =>
    refine PySem.W.kat_one _ _ ?_
    exact rc_lt a b A s v u as bs ra rb ca cb hc (by omega) prog w E _ h
  | true =>
    cases a with
    | int i =>
      cases b <;> first | cases hc | skip
      cases ra; cases rb
      rw [ltP_int] at h
      exact oneLt_int h
    | bool i =>
      cases b <;> first | cases hc | skip
      cases ra; cases rb
      rw [ltP_bool] at h
      exact oneLt_bool h
    | str i =>
      cases b <;> first | cases hc | skip
      cases ra; cases rb
      rw [ltP_str] at h
      exact oneLt_str h
    | tuple xs =>
      cases b <;> first | cases hc | skip
      rename_i ys
      have hc' : cmpbs xs ys = true := hc
      simp only [PyData.depth] at hu
      obtain ⟨l, b, items, items2, rfl, rfl, T⟩ := tup_pair (A := A.in1) ra rb ca cb hc' (by show A.units + 1 + _ < _; omega) (fun x y v u as bs hm r1 r2 c1 c2 c3 hu' => rc_lt x y A.in1 s v u as bs r1 r2 c1 c2 c3 hu')
      rw [ltP_tup xs ys hc', ← T.n1, ← T.n2] at h
      rw [oneLt'_eq]
      simp only [if_true]
      refine wpAny_bind (wpAny_cRoomFor (by omega) ?_)
      obtain ⟨⟨cls, dd, data, sl⟩, ho, hcl, n, hd⟩ := T.hl
      obtain ⟨⟨cls2, dd2, data2, sl2⟩, ho2, hcl2, n2, hd2⟩ := T.hb
      simp only at hcl hd hcl2 hd2
      subst hcl hd hcl2 hd2
      refine wpAny_bind (wpAny_callSpecialIfBound?_slot ⟨_, ho, rfl⟩ F.slot_tuple_lt (call_meets F.slot_tuple_lt ⟨_, ho, rfl⟩ F.entry_tuple_lt (F.args_tuple_lt_2 _ _) (Ob.tuple_ltAt l b items items2 n n2 dd dd2 sl sl2 _ _)
        ⟨ho, ho2, T.he, fun j h1 h2 _ => T.hr j h1 h2, ?_⟩))
      exact wpAny_truthy_bool h
    | none => cases hc
    | list _ => cases hc
    | dict _ => cases hc
end

section
open SrtO
variable {α : Type} {lt : α → α → Bool}
theorem ins1_perm (x : α) : ∀ l : List α, (ins1 lt x l).Perm (x :: l)
  | [] => .refl _
  | y :: r => by
    unfold ins1
    split
    · exact ((ins1_perm x r).cons y).trans (.swap x y r)
    · exact .refl _
theorem sortG_perm : ∀ l : List α, (sortG lt l).Perm l
  | [] => .refl _
  | x :: r => (ins1_perm x _).trans ((sortG_perm r).cons x)
theorem ins1_srtd (O : Swo lt) (x : α) : ∀ l : List α, Srtd lt l → Srtd lt (ins1 lt x l)
  | [], _ => srtd_one x
  | y :: r, h => by
    unfold ins1
    obtain ⟨h1, h2⟩ := List.pairwise_cons.mp h
    split
    · rename_i c
      refine List.pairwise_cons.mpr ⟨fun z hz => ?_, ins1_srtd O x r h2⟩
      rcases List.mem_cons.mp ((ins1_perm x r).mem_iff.mp hz) with e | hz
      · rw [e]; exact O.asym _ _ c
      · exact h1 z hz
    · rename_i c
      have c' : lt y x = false := by simpa using c
      refine List.pairwise_cons.mpr ⟨fun z hz => ?_, h⟩
      rcases List.mem_cons.mp hz with e | hz
      · rw [e]; exact c'
      · exact O.tr x y z c' (h1 z hz)
theorem sortG_srtd (O : Swo lt) : ∀ l : List α, Srtd lt (sortG lt l)
  | [] => List.Pairwise.nil
  | x :: r => ins1_srtd O x _ (sortG_srtd O r)
theorem ins1_cls (O : Swo lt) (x z : α) : ∀ l : List α, (ins1 lt x l).filter (SrtO.eqv lt z) = (x :: l).filter (SrtO.eqv lt z)
  | [] => rfl
  | y :: r => by
    unfold ins1
    split
    · rename_i c
      have ih := ins1_cls O x z r
      rw [List.filter_cons, ih]
      by_cases h1 : SrtO.eqv lt z x = true
      · have h2 : SrtO.eqv lt z y = false := by
          rcases bcase (SrtO.eqv lt z y) with q | q
          · obtain ⟨a1, a2⟩ := eqv_iff.mp h1
            obtain ⟨b1, b2⟩ := eqv_iff.mp q
            have := O.tr x z y a1 b2
            rw [c] at this; cases this
          · exact q
        simp [List.filter_cons, h1, h2]
      · simp [List.filter_cons, h1]
    · rfl
theorem sortG_cls (O : Swo lt) (z : α) : ∀ l : List α, (sortG lt l).filter (SrtO.eqv lt z) = l.filter (SrtO.eqv lt z)
  | [] => rfl
  | x :: r => by
    show (ins1 lt x (sortG lt r)).filter _ = _
    rw [ins1_cls O, List.filter_cons, List.filter_cons, sortG_cls O z r]
theorem sortG_stb (O : Swo lt) (l : List α) : Stb lt (sortG lt l) l := ⟨sortG_perm l, fun z => sortG_cls O z l⟩
theorem sortG_uniq (O : Swo lt) {l m : List α} (h1 : Srtd lt m) (h2 : Stb lt m l) : m = sortG lt l :=
  stb_uniq O h1 (sortG_srtd O l) (h2.trans ⟨(sortG_perm l).symm, fun x => (sortG_cls O x l).symm⟩)
inductive All2 {α β : Type} (R : α → β → Prop) : List α → List β → Prop
  | nil : All2 R [] []
  | cons {a : α} {b : β} {l : List α} {m : List β} : R a b → All2 R l m → All2 R (a :: l) (b :: m)
/-- what stands beside goes along -/
theorem ins1_rel {β : Type} {lt' : β → β → Bool} {R : α → β → Prop} : ∀ (l : List α) (m : List β) (x : α) (y : β), (∀ u v u' v', R u v → R u' v' → u ∈ x :: l → u' ∈ x :: l → lt u u' = lt' v v') → R x y → All2 R l m → All2 R (ins1 lt x l) (ins1 lt' y m)
  | [], [], x, y, hl, hx, _ => .cons hx .nil
  | [], _ :: _, x, y, hl, hx, h => nomatch h
  | _ :: _, [], x, y, hl, hx, h => nomatch h
  | a :: l, b :: m, x, y, hl, hx, .cons h t => by
    unfold ins1
    rw [hl a b x y h hx (by simp) (by simp)]
    split
    · refine .cons h (ins1_rel l m x y (fun u v u' v' r r' m1 m2 => hl u v u' v' r r' ?_ ?_) hx t)
      · rcases List.mem_cons.mp m1 with e | m1
        · rw [e]; exact .head _
        · exact .tail _ (.tail _ m1)
      · rcases List.mem_cons.mp m2 with e | m2
        · rw [e]; exact .head _
        · exact .tail _ (.tail _ m2)
    · exact .cons hx (.cons h t)
theorem sortG_rel {β : Type} {lt' : β → β → Bool} {R : α → β → Prop} : ∀ (l : List α) (m : List β), (∀ u v u' v', R u v → R u' v' → u ∈ l → u' ∈ l → lt u u' = lt' v v') → All2 R l m → All2 R (sortG lt l) (sortG lt' m)
  | [], [], hl, _ => .nil
  | [], _ :: _, hl, h => nomatch h
  | _ :: _, [], hl, h => nomatch h
  | a :: l, b :: m, hl, .cons h t => by
    have p := (sortG_perm (lt := lt) l).cons a
    exact ins1_rel _ _ a b (fun u v u' v' r r' m1 m2 => hl u v u' v' r r' (p.mem_iff.mp m1) (p.mem_iff.mp m2)) h (sortG_rel l m (fun u v u' v' r r' m1 m2 => hl u v u' v' r r' (.tail _ m1) (.tail _ m2)) t)
end

/-! ### sorted of plain data -/
section
open SrtO Srt PySem.W
open Classical in
noncomputable def rdK (h : Heap) (v : Value) : PyData := if e : ∃ d as, Reads h v d as ∧ d.canLay0 = true then e.choose else .none
theorem rdK_eq {h : Heap} {v : Value} {d : PyData} {as : List Addr} (r : Reads h v d as) (c : d.canLay0 = true) : rdK h v = d := by
  have e : ∃ d as, Reads h v d as ∧ d.canLay0 = true := ⟨d, as, r, c⟩
  unfold rdK
  rw [dif_pos e]
  obtain ⟨bs, r2, c2⟩ := e.choose_spec
  exact SeqAt.Reads.unique _ _ _ _ _ c2 r2 r
theorem swo_ltP {α : Type} (k : α → PyData) : Swo fun x y => ltP (k x) (k y) := ⟨fun x y h => lexI_asym _ _ h, fun x y z h1 h2 => lexI_tr _ _ _ h1 h2⟩
/-- of one kind, and plain -/
structure SortIn (h : Heap) (B : Nat) (vs : List Value) : Prop where
  rd : ∀ v ∈ vs, ∃ d as, Reads h v d as ∧ d.canLay0 = true ∧ d.depth ≤ B
  cm : ∀ v ∈ vs, ∀ u ∈ vs, cmpb (rdK h v) (rdK h u) = true
theorem SortIn.at {h : Heap} {B : Nat} {vs : List Value} (S : SortIn h B vs) {v : Value} (hv : v ∈ vs) : ∃ as, Reads h v (rdK h v) as ∧ (rdK h v).canLay0 = true ∧ (rdK h v).depth ≤ B := by
  obtain ⟨d, as, r, c, l⟩ := S.rd v hv
  rw [rdK_eq r c]
  exact ⟨as, r, c, l⟩
variable {prog : Program} {w : World} {A : Around} {E : Value → Shared → Prop} {s : Shared}
theorem katlex {b fin : Bool} {B : Nat} {Q : Bool → Shared → Prop} (hu : A.units + 2 + B < cLine) : ∀ (ps qs : List Value) (xs ys : List PyData) (as bs : List Addr) (i : Nat), ReadsAll s.heap ps xs as → ReadsAll s.heap qs ys bs → PyData.canLayAll0 xs = true → PyData.canLayAll0 ys = true →
    PyData.depthAll xs ≤ B → cmpbs xs ys = true → fin = decide (xs.length < ys.length) → Q (lexI (encs xs ++ [0]) (encs ys ++ [0])) s → PySem.W.KatLex prog w A b fin Q (ps.zip qs) i s
  | [], qs, _, ys, _, bs, i, .nil, rb, ca, cb, hd, hc, hf, h => by
    refine PySem.W.kat_nil ?_
    cases rb with
    | nil => rw [hf]; simpa [encs, lexI] using h
    | cons _ _ => rw [hf]; simpa [encs, lexI] using h
  | p :: ps, [], _, _, _, _, i, .cons r t, .nil, ca, cb, hd, hc, hf, h => by
    refine PySem.W.kat_nil ?_
    rw [hf]; simpa [encs, lexI] using h
  | p :: ps, q :: qs, x :: xs, y :: ys, _, _, i, .cons (as := a1) r t, .cons (as := b1) r2 t2, ca, cb, hd, hc, hf, h => by
    simp only [PyData.canLayAll0, Bool.and_eq_true] at ca cb
    simp only [cmpbs, Bool.and_eq_true] at hc
    simp only [PyData.depthAll] at hd
    have e0 : lexI (encs (x :: xs) ++ [0]) (encs (y :: ys) ++ [0]) = if PyData.eqv x y = true then lexI (encs xs ++ [0]) (encs ys ++ [0]) else ltP x y := by
      have := lex_enc x y (encs xs ++ [0]) (encs ys ++ [0]) hc.1
      simp only [encs, List.cons_append, List.append_assoc, lexI] at this ⊢
      rw [this]; simp
    rw [e0] at h
    refine PySem.W.kat_cons (SeqAt.eqAt_reads x y A s p q a1 b1 r r2 ca.1 cb.1 (by omega) prog w _ _ ?_)
    refine PySem.W.kat_go (fun e => ?_) (fun e => ?_)
    · refine PySem.W.kat_yes (katlex hu ps qs xs ys _ _ (i + 1) t t2 ca.2 cb.2 (by omega) hc.2 (by simpa using hf) ?_)
      rw [if_pos e] at h; exact h
    · refine PySem.W.kat_no (oneLt_data _ r r2 ca.1 cb.1 hc.1 (by omega) ?_)
      rw [if_neg (by rw [e]; decide)] at h; exact h
theorem cmp_one {B : Nat} {vs : List Value} (S : SortIn s.heap B vs) (hu : A.units + 2 + B < cLine) : Cmp prog w A s oneType' (fun p => p.1 ∈ vs) (lt2 fun v u => ltP (rdK s.heap v) (rdK s.heap u)) := by
  intro p q hp hq
  obtain ⟨as, r1, c1, l1⟩ := S.at hp
  obtain ⟨bs, r2, c2, l2⟩ := S.at hq
  show wpAny (model prog w) A (oneLt' true p.1 q.1) _ _ s
  exact oneLt_data true r1 r2 c1 c2 (S.cm _ hp _ hq) (by omega) ⟨rfl, rfl⟩
theorem cmp_gen {B : Nat} {vs : List Value} (S : SortIn s.heap B vs) (hu : A.units + 2 + B < cLine) : Cmp prog w A s general' (fun p => p.1 ∈ vs) (lt2 fun v u => ltP (rdK s.heap v) (rdK s.heap u)) := by
  intro p q hp hq
  obtain ⟨as, r1, c1, l1⟩ := S.at hp
  obtain ⟨bs, r2, c2, l2⟩ := S.at hq
  show wpAny (model prog w) A (oneLt' false p.1 q.1) _ _ s
  exact oneLt_data false r1 r2 c1 c2 (S.cm _ hp _ hq) (by omega) ⟨rfl, rfl⟩
theorem cmp_tup {b : Bool} {B : Nat} {vs : List Value} (S : SortIn s.heap B vs) (hT : ∀ v ∈ vs, ∃ l, rdK s.heap v = .tuple l) (hu : A.units + 2 + B < cLine) : Cmp prog w A s (tuples' b) (fun p => p.1 ∈ vs) (lt2 fun v u => ltP (rdK s.heap v) (rdK s.heap u)) := by
  intro p q hp hq
  obtain ⟨as, r1, c1, l1⟩ := S.at hp
  obtain ⟨bs, r2, c2, l2⟩ := S.at hq
  obtain ⟨xs, e1⟩ := hT _ hp
  obtain ⟨ys, e2⟩ := hT _ hq
  have hc := S.cm _ hp _ hq
  show wpAny (model prog w) A (keyLt' (tuples' b) p.1 q.1) (fun r s' => s' = s ∧ r = ltP (rdK s.heap p.1) (rdK s.heap q.1)) (fun _ _ => False) s
  rw [e1] at r1 c1 l1 hc ⊢
  rw [e2] at r2 c2 l2 hc ⊢
  generalize p.1 = v at r1
  generalize q.1 = u at r2
  cases r1 with
  | tuple g1 k1 d1 t1 =>
    cases r2 with
    | tuple g2 k2 d2 t2 =>
      simp only [PyData.canLay0] at c1 c2
      simp only [PyData.depth] at l1
      have n1 := SeqAt.ReadsAll.length _ _ _ t1
      have n2 := SeqAt.ReadsAll.length _ _ _ t2
      rw [Array.length_toList] at n1 n2
      refine PySem.W.kat_lt g1 d1 g2 d2 (katlex (B := B) hu _ _ _ _ _ _ 0 t1 t2 c1 c2 (by omega) hc (by rw [n1, n2]) ?_)
      exact ⟨rfl, rfl⟩
theorem mapM_fn {M : Model} {α β : Type} {f : α → Sem β} {g : α → β} : ∀ (l : List α) {Q : List β → Shared → Prop}, (∀ v ∈ l, ∀ (Q' : β → Shared → Prop), Q' (g v) s → wpAny M A (f v) Q' E s) → Q (l.map g) s → wpAny M A (l.mapM f) Q E s
  | [], _, _, h => by rw [List.mapM_nil]; exact wpAny_pure h
  | x :: l, Q, hf, h => by
    rw [List.mapM_cons]
    exact wpAny_bind (hf x (.head _) _ (wpAny_bind (mapM_fn l (Q := fun bs s' => wpAny M A (pure (g x :: bs)) Q E s') (fun v hv => hf v (.tail _ hv)) (wpAny_pure h))))
def tyP : PyData → String
  | .none => "NoneType"
  | .bool _ => "bool"
  | .int _ => "int"
  | .str _ => "str"
  | .list _ => "list"
  | .tuple _ => "tuple"
  | .dict _ => "dict"
theorem looks_ty {M : Model} {h : Heap} {v : Value} {d : PyData} {as : List Addr} (r : Reads h v d as) : Looks M h (typeOf v) (.type (tyP d)) := by
  cases r with
  | none => exact .of_pure rfl
  | bool b => exact .of_pure rfl
  | int i t => exact .of_pure rfl
  | str i t => exact .of_pure rfl
  | list ho hc _ _ =>
    show Looks M h _ (Value.type "list")
    rw [← hc]; exact (Looks.ld ho).andThen .now
  | tuple ho hc _ _ =>
    show Looks M h _ (Value.type "tuple")
    rw [← hc]; exact (Looks.ld ho).andThen .now
  | dict ho hc _ _ _ =>
    show Looks M h _ (Value.type "dict")
    rw [← hc]; exact (Looks.ld ho).andThen .now
def fstV (h : Heap) : Value → Option Value
  | .ref a => match h.get? a with
    | some o => match o.data with
      | .seq xs _ => xs[0]?
      | _ => none
    | none => none
  | _ => none
theorem tuple_firsts {M : Model} {vs : List Value} {B : Nat} {Q : List (Option Value) → Shared → Prop} (S : SortIn s.heap B vs) (hT : ∀ v ∈ vs, ∃ l, rdK s.heap v = .tuple l) (h : Q (vs.map (fstV s.heap)) s) : wpAny M A (vs.mapM firstOfTuple') Q E s := by
  refine mapM_fn vs (fun v hv Q' hq => ?_) h
  obtain ⟨as, r, c, l⟩ := S.at hv
  obtain ⟨xs, e⟩ := hT v hv
  rw [e] at r
  rw [kas_first_eq]
  refine wpAny_bind ((looks_ty r).here ?_)
  rw [if_neg (by simp [tyP])]
  cases r with
  | tuple g1 k1 d1 t1 =>
    refine wpAny_bind (listItems_at g1 d1 (wpAny_pure ?_))
    simp only [fstV, g1, d1] at hq
    exact hq
theorem fst_ty {h : Heap} {v f : Value} {d : PyData} {as : List Addr} (r : Reads h v d as) (e : fstV h v = some f) (hd : ∃ l, d = .tuple l) : ∃ T, ∀ M : Model, Looks M h (typeOf f) (.type T) := by
  obtain ⟨xs, rfl⟩ := hd
  cases r with
  | tuple g1 k1 d1 t1 =>
    simp only [fstV, g1, d1] at e
    generalize hl : Array.toList _ = l at t1
    have e' : l[0]? = some f := by rw [← hl, Array.getElem?_toList]; exact e
    cases t1 with
    | nil => simp at e'
    | cons r t =>
      simp at e'; subst e'
      exact ⟨_, fun M => looks_ty r⟩

theorem kind_tup {vs : List Value} {B : Nat} (S : SortIn s.heap B vs) (hT : ∀ v ∈ vs, ∃ l, rdK s.heap v = .tuple l) (h2 : 2 ≤ vs.length) : ∃ κ, (κ = oneType' ∨ κ = general' ∨ ∃ b, κ = tuples' b) ∧
    ∀ (M : Model) (A : Around) (Q : SortKind → Shared → Prop) (E : Value → Shared → Prop), Q κ s → wpAny M A (keyKind' vs.toArray) Q E s := by
  by_cases hall : ((vs.map (fstV s.heap)).toArray.all fun x => x.isSome) = true
  · have hfs : ∃ ts : List Value, ∀ (M : Model) (A : Around) (Q : List Value → Shared → Prop) (E : Value → Shared → Prop), Q ts s → wpAny M A ((((vs.map (fstV s.heap)).toArray.filterMap id)).toList.mapM typeOf) Q E s := by
      have hm : ∀ f ∈ ((vs.map (fstV s.heap)).toArray.filterMap id).toList, ∃ T, ∀ M : Model, Looks M s.heap (typeOf f) (.type T) := fun f hf => by
        have hf' : ∃ v ∈ vs, fstV s.heap v = some f := by simpa using hf
        obtain ⟨v, hv, e⟩ := hf'
        obtain ⟨as, r, c, l⟩ := S.at hv
        exact fst_ty r e (hT v hv)
      generalize ((vs.map (fstV s.heap)).toArray.filterMap id).toList = fs at hm
      clear hall
      induction fs with
      | nil => exact ⟨[], fun M A Q E h => by rw [List.mapM_nil]; exact wpAny_pure h⟩
      | cons f fs ih =>
        obtain ⟨ts, h⟩ := ih fun f hf => hm f (.tail _ hf)
        obtain ⟨T, hT⟩ := hm f (.head _)
        refine ⟨.type T :: ts, fun M A Q E q => ?_⟩
        rw [List.mapM_cons]
        exact wpAny_bind ((hT M).here (wpAny_bind (h M A _ E (wpAny_pure q))))
    obtain ⟨ts, hts⟩ := hfs
    refine ⟨tuples' (Option.any (· != Value.type "tuple") (match ts.toArray[0]? with
      | some t => if ts.toArray.all (· == t) then some t else none
      | none => none)), .inr (.inr ⟨_, rfl⟩), fun M A Q E q => ?_⟩
    rw [kat_kind_eq, List.mapM_toArray, map_eq_pure_bind]
    refine wpAny_bind (wpAny_bind (tuple_firsts S hT (wpAny_pure ?_)))
    rw [if_pos hall]
    refine wpAny_bind (wpAny_rule ?_)
    rw [oneTypeOnly'_eq]
    have e : ((vs.map (fstV s.heap)).toArray.filterMap id) = (((vs.map (fstV s.heap)).toArray.filterMap id).toList).toArray := by rw [Array.toArray_toList]
    rw [e, List.mapM_toArray, map_eq_pure_bind]
    refine wpAny_bind (wpAny_bind (wpAny_bind (hts M A _ E (wpAny_pure ?_))))
    cases hz : ts.toArray[0]? with
    | none => simp only [hz] at q ⊢; exact wpAny_pure (wpAny_pure q)
    | some t => simp only [hz] at q ⊢; exact wpAny_pure (wpAny_pure q)
  · by_cases hf : (((vs.map (fstV s.heap)).toArray[0]?).bind id).isSome = true
    · refine ⟨general', .inr (.inl rfl), fun M A Q E q => ?_⟩
      rw [kat_kind_eq, List.mapM_toArray, map_eq_pure_bind]
      refine wpAny_bind (wpAny_bind (tuple_firsts S hT (wpAny_pure ?_)))
      rw [if_neg hall, if_pos hf]
      exact wpAny_pure q
    · refine ⟨oneType', .inl rfl, fun M A Q E q => ?_⟩
      rw [kat_kind_eq, List.mapM_toArray, map_eq_pure_bind]
      refine wpAny_bind (wpAny_bind (tuple_firsts S hT (wpAny_pure ?_)))
      rw [if_neg hall, if_neg hf]
      rw [oneTypeOnly'_eq, List.mapM_toArray, map_eq_pure_bind]
      refine wpAny_bind (wpAny_bind (wpAny_bind (kas_mapM (r := Value.type "tuple") _ (fun v hv Q' hq => ?_) (wpAny_pure ?_))))
      · obtain ⟨as, r, c, l⟩ := S.at hv
        obtain ⟨xs, e⟩ := hT v hv
        rw [e] at r
        exact (looks_ty r).here hq
      · obtain ⟨v, r, rfl⟩ : ∃ v r, vs = v :: r := by
          match vs, h2 with
          | v :: r, _ => exact ⟨v, r, rfl⟩
        have h0 : (List.map (fun _ => Value.type "tuple") (v :: r)).toArray[0]? = some (.type "tuple") := by simp
        have hall2 : ((List.map (fun _ => Value.type "tuple") (v :: r)).toArray.all fun x => x == Value.type "tuple") = true := by
          simp only [List.all_toArray, List.all_map, List.all_eq_true]
          intro _ _
          rfl
        rw [h0]
        simp only [hall2, if_true]
        exact wpAny_pure (wpAny_pure q)
theorem tup_of_cmp {a b : PyData} (h : cmpb a b = true) : (∃ l, a = .tuple l) ∨ (∀ l, a ≠ .tuple l) ∧ tyP a = tyP b ∧ tyP a ≠ "tuple" := by
  cases a with
  | tuple l => exact .inl ⟨l, rfl⟩
  | int i =>
    cases b <;> first | cases h | skip
    exact .inr ⟨(fun _ z => by cases z), rfl, (by simp [tyP])⟩
  | bool i =>
    cases b <;> first | cases h | skip
    exact .inr ⟨(fun _ z => by cases z), rfl, (by simp [tyP])⟩
  | str i =>
    cases b <;> first | cases h | skip
    exact .inr ⟨(fun _ z => by cases z), rfl, (by simp [tyP])⟩
  | none => cases h
  | list l => cases h
  | dict l => cases h
theorem data_sortable {s₀ s₁ : Shared} {a : Addr} {vs : List Value} {B : Nat} (S : SortIn s₀.heap B vs) (h2 : 2 ≤ vs.length) (hu : A.units + 2 + B < cLine) (k0 : ∀ b o, s₀.heap.get? b = some o → b ≠ a ∧ s₁.heap.get? b = some o) :
    SortableO prog w A s₁ a vs fun v u => ltP (rdK s₀.heap v) (rdK s₀.heap u) := by
  intro h' keep
  have kk : ∀ b o, s₀.heap.get? b = some o → h'.get? b = some o := fun b o e => keep b o (k0 b o e).1 (k0 b o e).2
  have er : ∀ v ∈ vs, rdK h' v = rdK s₀.heap v := fun v hv => by
    obtain ⟨as, r, c, l⟩ := S.at hv
    exact rdK_eq (PyProof.Rows.Reads.keeps kk r) c
  have S' : SortIn h' B vs := ⟨fun v hv => by
    obtain ⟨as, r, c, l⟩ := S.at hv
    exact ⟨_, as, PyProof.Rows.Reads.keeps kk r, c, l⟩, fun v hv u hu => by rw [er v hv, er u hu]; exact S.cm v hv u hu⟩
  have tr : ∀ {κ : SortKind}, Cmp prog w A { s₁ with heap := h' } κ (fun p => p.1 ∈ vs) (lt2 fun v u => ltP (rdK h' v) (rdK h' u)) → Cmp prog w A { s₁ with heap := h' } κ (fun p => p.1 ∈ vs) (lt2 fun v u => ltP (rdK s₀.heap v) (rdK s₀.heap u)) := fun {κ} c p q hp hq => by
    have z := c p q hp hq
    simp only [lt2, er _ hp, er _ hq] at z
    exact z
  obtain ⟨v, r, e⟩ : ∃ v r, vs = v :: r := by
    match vs, h2 with
    | v :: r, _ => exact ⟨v, r, rfl⟩
  have hv : v ∈ vs := by rw [e]; exact .head _
  by_cases ht : ∃ l, rdK h' v = .tuple l
  · have hT : ∀ u ∈ vs, ∃ l, rdK h' u = .tuple l := fun u hu => by
      rcases tup_of_cmp (S'.cm u hu v hv) with z | ⟨z, z2, z3⟩
      · exact z
      · obtain ⟨l, e⟩ := ht
        rw [e] at z2
        exact (z3 z2).elim
    obtain ⟨κ, hκ, hk⟩ := kind_tup (s := { s₁ with heap := h' }) S' hT h2
    refine ⟨κ, fun Q E q => hk _ _ Q E q, tr ?_⟩
    rcases hκ with rfl | rfl | ⟨b, rfl⟩
    · exact cmp_one (s := { s₁ with heap := h' }) S' hu
    · exact cmp_gen (s := { s₁ with heap := h' }) S' hu
    · exact cmp_tup (s := { s₁ with heap := h' }) S' hT hu
  · refine ⟨oneType', fun Q E q => ?_, tr (cmp_one (s := { s₁ with heap := h' }) S' hu)⟩
    refine kas_kind (T := .type (tyP (rdK h' v))) h2 (fun u hu => ?_) ?_ (by simp) q
    · obtain ⟨as, rd, c, l⟩ := S'.at hu
      have := looks_ty (M := model prog w) rd
      rcases tup_of_cmp (S'.cm u hu v hv) with z | ⟨z, z2, z3⟩
      · rcases tup_of_cmp (S'.cm v hv u hu) with y | ⟨y, y2, y3⟩
        · exact (ht y).elim
        · obtain ⟨l, e⟩ := z
          rw [e] at y2
          exact (y3 y2).elim
      · rw [z2] at this; exact this
    · rcases tup_of_cmp (S'.cm v hv v hv) with y | ⟨y, y2, y3⟩
      · exact (ht y).elim
      · simpa using y3
end
end Mi

namespace Mi
open PySem PySem.Spec PyProof.Rows L2

theorem All2.imp {α β : Type} {R S : α → β → Prop} : ∀ {l : List α} {m : List β}, (∀ a b, a ∈ l → b ∈ m → R a b → S a b) → All2 R l m → All2 S l m
  | [], [], _, _ => .nil
  | [], _ :: _, _, h => nomatch h
  | _ :: _, [], _, h => nomatch h
  | _ :: _, _ :: _, f, .cons h t => .cons (f _ _ (.head _) (.head _) h) (All2.imp (fun a b ma mb => f a b (.tail _ ma) (.tail _ mb)) t)
theorem All2.left {α β : Type} {R : α → β → Prop} : ∀ {l : List α} {m : List β}, All2 R l m → ∀ a ∈ l, ∃ b ∈ m, R a b
  | [], [], _, a, h => nomatch h
  | [], _ :: _, h, _, _ => nomatch h
  | _ :: _, [], h, _, _ => nomatch h
  | _ :: _, _ :: _, .cons h t, a, ma => by
    rcases List.mem_cons.mp ma with e | ma
    · subst e; exact ⟨_, .head _, h⟩
    · obtain ⟨b, mb, r⟩ := All2.left t a ma
      exact ⟨b, .tail _ mb, r⟩
theorem All2.right {α β : Type} {R : α → β → Prop} : ∀ {l : List α} {m : List β}, All2 R l m → ∀ b ∈ m, ∃ a ∈ l, R a b
  | [], [], _, a, h => nomatch h
  | [], _ :: _, h, _, _ => nomatch h
  | _ :: _, [], h, _, _ => nomatch h
  | _ :: _, _ :: _, .cons h t, a, ma => by
    rcases List.mem_cons.mp ma with e | ma
    · subst e; exact ⟨_, .head _, h⟩
    · obtain ⟨b, mb, r⟩ := All2.right t a ma
      exact ⟨b, .tail _ mb, r⟩
theorem vals_all2 : ∀ {xs : List V} {us : List Value}, Vals xs us → All2 RelV xs us
  | _, _, .nil => .nil
  | _, _, .cons r t => .cons r (vals_all2 t)
theorem all2_vals : ∀ {xs : List V} {us : List Value}, All2 RelV xs us → Vals xs us
  | _, _, .nil => .nil
  | _, _, .cons r t => .cons r (all2_vals t)
theorem dpAll2 {K : PySem.W.Frag} {H : Hp} : ∀ {xs : List V} {ds : List PyData}, DpAll K H xs ds → All2 (Dp K H) xs ds
  | _, _, .nil => .nil
  | _, _, .cons r t => .cons r (dpAll2 t)
theorem lay_mem : ∀ {ds : List PyData}, PyData.canLayAll0 ds = true → ∀ d ∈ ds, d.canLay0 = true
  | [], _, d, h => nomatch h
  | x :: r, c, d, h => by
    simp only [PyData.canLayAll0, Bool.and_eq_true] at c
    rcases List.mem_cons.mp h with e | h
    · rw [e]; exact c.1
    · exact lay_mem c.2 d h
theorem depth_mem : ∀ {ds : List PyData}, ∀ d ∈ ds, d.depth ≤ PyData.depthAll ds
  | [], d, h => nomatch h
  | x :: r, d, h => by
    simp only [PyData.depthAll]
    rcases List.mem_cons.mp h with e | h
    · rw [e]; exact Nat.le_max_left _ _
    · exact Nat.le_trans (depth_mem d h) (Nat.le_max_right _ _)
/-- sorted(xs), xs a list of plain data that compare -/
def rSortedM (K : PySem.W.Frag) : List V → Hp → VK → Prop := fun vs H Q => ∃ (a : Addr) (xs : List V) (ds : List PyData), vs = [V.ref a] ∧ SqL K H a xs ∧ DpAll K H xs ds ∧ PyData.canLayAll0 ds = true ∧ PyData.depthAll ds ≤ 60 ∧
  (∀ d ∈ ds, ∀ e ∈ ds, cmpb d e = true) ∧ ∀ (ys : List V) (p : Addr), (∀ (α : Type) (R : α → V → Prop) (k : α → PyData) (l : List α), All2 (fun x v => R x v ∧ Dp K H v (k x)) l xs → All2 R (sortG (kLt k) l) ys) → H p = none → Q (.ref p) (upd H p (.lst ys))
section
variable {X : Cx}
open SrtO Srt
open Classical in
theorem cr_sortedM (hu : X.A.units + 66 < cLine) : CallR X (.builtin "sorted") (rSortedM X.K) := by
  intro pins s σ H vs us Q I r h
  obtain ⟨a, xs, ds, rfl, hs, hd, hl, hB, hc, q⟩ := h
  obtain ⟨its, rv, hl0, hz⟩ := I.list hs
  rw [Vals.ref1 r]
  have d2 := dpAll2 hd
  have v2 := vals_all2 rv
  -- each item reads as its data
  have uniq : ∀ v ∈ xs, ∀ d e, Dp X.K H v d → Dp X.K H v e → d.canLay0 = true → d = e := fun v hv d e h1 h2 c => by
    obtain ⟨u, _, ru⟩ := v2.left v hv
    obtain ⟨as, r1⟩ := Dp.reads I d v u h1 ru
    obtain ⟨bs, r2⟩ := Dp.reads I e v u h2 ru
    exact SeqAt.Reads.unique _ _ _ _ _ c r1 r2
  let kv : V → PyData := fun v => if e : ∃ d, Dp X.K H v d ∧ d.canLay0 = true then e.choose else .none
  have kvd : ∀ v ∈ xs, Dp X.K H v (kv v) ∧ (kv v).canLay0 = true := fun v hv => by
    obtain ⟨d, md, h1⟩ := d2.left v hv
    have e : ∃ d, Dp X.K H v d ∧ d.canLay0 = true := ⟨d, h1, lay_mem hl d md⟩
    show Dp X.K H v (if e : ∃ d, Dp X.K H v d ∧ d.canLay0 = true then e.choose else .none) ∧ (if e : ∃ d, Dp X.K H v d ∧ d.canLay0 = true then e.choose else .none).canLay0 = true
    rw [dif_pos e]
    exact e.choose_spec
  have kvm : ∀ v ∈ xs, kv v ∈ ds := fun v hv => by
    obtain ⟨d, md, h1⟩ := d2.left v hv
    rw [uniq v hv _ _ (kvd v hv).1 h1 (kvd v hv).2]
    exact md
  have rk : ∀ v u, v ∈ xs → RelV v u → rdK s.heap u = kv v := fun v u hv ru => by
    obtain ⟨as, r1⟩ := Dp.reads I _ v u (kvd v hv).1 ru
    exact rdK_eq r1 (kvd v hv).2
  have S : SortIn s.heap 60 its := by
    refine ⟨fun u hu => ?_, fun u hu u' hu' => ?_⟩
    · obtain ⟨v, hv, ru⟩ := v2.right u hu
      obtain ⟨as, r1⟩ := Dp.reads I _ v u (kvd v hv).1 ru
      exact ⟨_, as, r1, (kvd v hv).2, Nat.le_trans (depth_mem _ (kvm v hv)) hB⟩
    · obtain ⟨v, hv, ru⟩ := v2.right u hu
      obtain ⟨v', hv', ru'⟩ := v2.right u' hu'
      rw [rk v u hv ru, rk v' u' hv' ru']
      exact hc _ (kvm v hv) _ (kvm v' hv')
  refine sorted_ord (swo_ltP (rdK s.heap)) hl0.isList (by rw [← rv.length]; exact hz) (fun h2 h₁ a' _ keep => data_sortable S h2 (by show X.A.units + 1 + 1 + 2 + 60 < cLine; omega) keep) fun out h1 h2 => ?_
  obtain rfl := sortG_uniq (swo_ltP (rdK s.heap)) h1 h2
  have yv : All2 RelV (sortG (kLt kv) xs) (sortG (fun v u => ltP (rdK s.heap v) (rdK s.heap u)) its) := sortG_rel _ _ (fun v u v' u' r1 r2 m1 m2 => by
    show ltP (kv v) (kv v') = ltP (rdK s.heap u) (rdK s.heap u')
    rw [rk v u m1 r1, rk v' u' m2 r2]) v2
  have yv' := all2_vals yv
  obtain ⟨ep, he'⟩ := PyProof.Rows.sortedAll_at s.heap its (sortG (fun v u => ltP (rdK s.heap v) (rdK s.heap u)) its).toArray
  have hlen : (sortG (kLt kv) xs).length ≤ sizeLine := by rw [(sortG_perm xs).length_eq]; exact hz
  refine ⟨.ref _, upd H (s.heap.objs.size + 1) (.lst (sortG (kLt kv) xs)), I.laid (t' := s.toks) (fun _ _ => PyProof.Rows.sortedAll_old) (Nat.le_succ _) ⟨hlen, _, ep, yv', he'⟩, rfl, q _ _ (fun α R k l hl2 => ?_) (I.hok.fresh (Nat.le_succ _))⟩
  have hl3 : All2 (fun x v => R x v ∧ k x = kv v) l xs := hl2.imp fun x v _ mv ⟨r, d⟩ => ⟨r, (uniq v mv _ _ (kvd v mv).1 d (kvd v mv).2).symm⟩
  exact (sortG_rel l xs (fun x v x' v' r1 r2 _ _ => by show ltP (k x) (k x') = ltP (kv v) (kv v'); rw [r1.2, r2.2]) hl3).imp fun _ _ _ _ h => h.1
end
end Mi

namespace Mi
open PySem PySem.Spec PyProof.Rows L2

/-! ### items, parts -/
section
variable {X : Cx} {C : BC}
theorem Reps.atI {K : PySem.W.Frag} {mg : Str → Option Value} {H : Hp} {F : Addr → Prop} {l : List D} {vs : List V} {i : Int} {y : D} (r : Reps K mg H F l vs) (h : L2.atI l i = some y) : ∃ w, L2.atI vs i = some w ∧ Rep K mg H F y w := by
  unfold L2.atI at *
  rw [← r.length]
  obtain ⟨j, e1, e2⟩ := Option.bind_eq_some_iff.mp h
  obtain ⟨w, e3, q⟩ := r.get e2
  exact ⟨w, by rw [e1]; exact e3, q⟩
theorem opIx_ok (hK : C.K = X.K) (p : Pt) (x : SV) (i : Int) (v : V) (Q : VK) (I : I3 C p) (rx : RepB C p x v) (h : opIx x i p.hp (cont C p Q)) : rIx X.K v (.int i) p.H Q := by
  simp only [opIx] at h
  split at h
  · obtain ⟨hz, h⟩ := h
    obtain ⟨c, hc, h⟩ := onSome_iff.mp h
    rw [rx.str]
    exact .inr (.inr ⟨_, _, c, rfl, rfl, hz, hc, cont.hereD I h (.str _)⟩)
  · obtain ⟨l, hl, h⟩ := onSome_iff.mp h
    obtain ⟨y, hy, h⟩ := onSome_iff.mp h
    obtain ⟨a, vs, rfl, s, t⟩ := rx.seq I hl
    obtain ⟨w, hw, q⟩ := t.atI hy
    rw [hK] at s
    rcases s with s | s
    · exact .inl ⟨a, vs, i, w, rfl, rfl, s, hw, cont.hereD I h q⟩
    · exact .inr (.inl ⟨a, vs, i, w, rfl, rfl, s, hw, cont.hereD I h q⟩)
theorem cut_all {α : Type} (l : List α) {lo hi : Option Int} (h : HT.sIx l.length 0 lo = 0 ∧ HT.sIx l.length l.length hi = l.length) : cut l lo hi = l := by
  unfold cut
  rw [h.1, h.2]
  simp
theorem opSl_ok (hK : C.K = X.K) : ∃ r, SlR X r ∧ ∀ (p : Pt) (x : SV) (lo hi : Option Int) (v : V) (Q : VK), I3 C p → RepB C p x v → opSl x lo hi p.hp (cont C p Q) → r v lo hi p.H Q := by
  refine ⟨_, SlR.or sl_str (SlR.or sl_tupA sl_list), fun p x lo hi v Q I rx h => ?_⟩
  simp only [opSl] at h
  split at h
  · rw [rx.str]
    exact .inl ⟨_, rfl, h.1, cont.hereD I h.2 (.str _)⟩
  · obtain ⟨a, vs, rfl, n, t⟩ := rx.tup
    refine .inr (.inl ⟨a, vs, rfl, by rw [← hK]; exact n.sq, fun e => ?_, fun _ q hq => cont.laidT I h (t.cut lo hi) hq⟩)
    rw [← t.length] at e
    rw [cut_all _ e] at h
    exact cont.hereD I h (.tup n t)
  · obtain ⟨l, hl, h⟩ := onSome_iff.mp h
    obtain ⟨a, vs, rfl, s, t⟩ := rx.lst I hl
    exact .inr (.inr ⟨a, vs, rfl, by rw [← hK]; exact s, fun q hq => cont.laidO I h (t.cut lo hi) hq⟩)

/-! ### built-ins by values -/
theorem intsD_eq : ∀ {l : List D} {ns : List Int}, intsD l = some ns → l = ns.map D.int
  | [], ns, h => by simp only [intsD] at h; cases h; rfl
  | x :: r, ns, h => by
    cases x with
    | int i =>
      simp only [intsD, Option.map_eq_some_iff] at h
      obtain ⟨m, h, rfl⟩ := h
      rw [intsD_eq h]; rfl
    | _ => simp [intsD] at h
theorem boolsD_eq : ∀ {l : List D} {ns : List Bool}, boolsD l = some ns → l = ns.map D.bl
  | [], ns, h => by simp only [boolsD] at h; cases h; rfl
  | x :: r, ns, h => by
    cases x with
    | bl i =>
      simp only [boolsD, Option.map_eq_some_iff] at h
      obtain ⟨m, h, rfl⟩ := h
      rw [boolsD_eq h]; rfl
    | _ => simp [boolsD] at h
theorem Reps.ints {K : PySem.W.Frag} {mg : Str → Option Value} {H : Hp} {F : Addr → Prop} : ∀ {ns : List Int} {vs : List V}, Reps K mg H F (ns.map D.int) vs → vs = ns.map V.int
  | [], _, .nil => rfl
  | _ :: _, _, .cons (.int _) t => by rw [Reps.ints t]; rfl
theorem Reps.bls {K : PySem.W.Frag} {mg : Str → Option Value} {H : Hp} {F : Addr → Prop} : ∀ {ns : List Bool} {vs : List V}, Reps K mg H F (ns.map D.bl) vs → vs = ns.map V.bl
  | [], _, .nil => rfl
  | _ :: _, _, .cons (.bl _) t => by rw [Reps.bls t]; rfl
theorem maxI_spec : ∀ (r : List Int) (m : Int), maxI m r ∈ m :: r ∧ ∀ y ∈ m :: r, y ≤ maxI m r
  | [], m => by simp [maxI]
  | x :: r, m => by
    have ih := maxI_spec r (if x > m then x else m)
    simp only [maxI]
    by_cases h : x > m
    · rw [if_pos h] at ih ⊢
      refine ⟨List.mem_cons_of_mem _ ih.1, fun y hy => ?_⟩
      have hx := ih.2 x List.mem_cons_self
      rcases List.mem_cons.mp hy with e | hy
      · omega
      · exact ih.2 y hy
    · rw [if_neg h] at ih ⊢
      refine ⟨?_, fun y hy => ?_⟩
      · rcases List.mem_cons.mp ih.1 with e | e
        · rw [e]; exact List.mem_cons_self
        · exact List.mem_cons_of_mem _ (List.mem_cons_of_mem _ e)
      · have hm := ih.2 m List.mem_cons_self
        rcases List.mem_cons.mp hy with e | hy
        · omega
        · rcases List.mem_cons.mp hy with e | hy
          · omega
          · exact ih.2 y (List.mem_cons_of_mem _ hy)
theorem minI_spec : ∀ (r : List Int) (m : Int), minI m r ∈ m :: r ∧ ∀ y ∈ m :: r, minI m r ≤ y
  | [], m => by simp [minI]
  | x :: r, m => by
    have ih := minI_spec r (if x < m then x else m)
    simp only [minI]
    by_cases h : x < m
    · rw [if_pos h] at ih ⊢
      refine ⟨List.mem_cons_of_mem _ ih.1, fun y hy => ?_⟩
      have hx := ih.2 x List.mem_cons_self
      rcases List.mem_cons.mp hy with e | hy
      · omega
      · exact ih.2 y hy
    · rw [if_neg h] at ih ⊢
      refine ⟨?_, fun y hy => ?_⟩
      · rcases List.mem_cons.mp ih.1 with e | e
        · rw [e]; exact List.mem_cons_self
        · exact List.mem_cons_of_mem _ (List.mem_cons_of_mem _ e)
      · have hm := ih.2 m List.mem_cons_self
        rcases List.mem_cons.mp hy with e | hy
        · omega
        · rcases List.mem_cons.mp hy with e | hy
          · omega
          · exact ih.2 y (List.mem_cons_of_mem _ hy)
def rReprM (K : PySem.W.Frag) : List V → Hp → VK → Prop := fun xs H Q => ∃ v d, xs = [v] ∧ Dp K H v d ∧ d.canLay0 = true ∧ d.depth ≤ 64 ∧ d.showable = true ∧ d.shown.length ≤ sizeLine ∧ Q (.str d.shown) H
theorem call_reprM (hu : X.A.units + 66 < cLine) (hg : X.A.guards = some []) : CallR X (.builtin "repr") (rReprM X.K) := by
  rintro pins s σ H xs us Q I r ⟨v, d, rfl, hd, cd, hm, hs, hz, q⟩
  cases r with
  | cons rv rt =>
    cases rt
    have viaRef : ∀ {a : Addr}, v = .ref a → wpAny (model X.prog X.w) X.A (PySem.call (.builtin "repr") [.ref a]) (EP X pins σ Q) X.xe s := fun {a} e => by
      obtain ⟨as, rd⟩ := Dp.reads I d v (.ref a) hd (by rw [e]; rfl)
      refine repr_of_reads' (h₀ := s.heap) rd hs (PyData.noDict_hsm (PyData.hasDict_of_canLay d cd)) hg (by omega) (fun _ _ e => e) (fun h' u tk hk => ?_) hz
      exact ⟨.str d.shown, H, I.kept hk, ⟨u, rfl⟩, q⟩
    cases hd with
    | non => cases rv; exact PySem.P.repr_of_none ⟨.str _, H, I.tok _, ⟨_, rfl⟩, q⟩
    | bl b => cases rv; exact PySem.P.repr_of_bool ⟨.str _, H, I.tok _, ⟨_, rfl⟩, by simp only [PyData.shown] at q; exact q⟩
    | int i =>
      obtain ⟨t, rfl⟩ := rv
      exact PySem.P.repr_of_int (by simpa [PyData.showable] using hs) ⟨.str _, H, I.tok _, ⟨_, rfl⟩, q⟩
    | str z =>
      obtain ⟨t, rfl⟩ := rv
      exact PySem.P.repr_of_str ⟨.str _, H, I.tok _, ⟨_, rfl⟩, q⟩ (by simpa [PyData.shown] using hz)
    | lst s t => cases rv; exact viaRef rfl
    | tup s t => cases rv; exact viaRef rfl
theorem reps_all2 {K : PySem.W.Frag} {mg : Str → Option Value} {H : Hp} {F : Addr → Prop} : ∀ {l : List D} {ds : List PyData} {vs : List V}, D.pds l = some ds → Reps K mg H F l vs → All2 (fun x v => Rep K mg H F x v ∧ Dp K H v (pdK x)) l vs
  | [], _, _, _, .nil => .nil
  | x :: l, ds, _, h, .cons r t => by
    simp only [D.pds] at h
    split at h
    · rename_i a b h1 h2
      refine .cons ⟨r, ?_⟩ (reps_all2 h2 t)
      have e : pdK x = a := by unfold pdK; rw [h1]; rfl
      rw [e]; exact r.dp h1
    · cases h
theorem all2_reps {K : PySem.W.Frag} {mg : Str → Option Value} {H : Hp} {F : Addr → Prop} : ∀ {l : List D} {vs : List V}, All2 (Rep K mg H F) l vs → Reps K mg H F l vs
  | [], [], _ => .nil
  | [], _ :: _, h => nomatch h
  | _ :: _, [], h => nomatch h
  | _ :: _, _ :: _, .cons r t => .cons r (all2_reps t)
def m1n : M1 → Str
  | .index => "index" | .count => "count"
def m0n : M0 → Str
  | .upper => "upper"
theorem call_str_bool : CallR X (.type "str") (fun xs H Q => ∃ b, xs = [.bl b] ∧ Q (.str (if b then "True" else "False")) H) := by
  intro pins s σ H xs us Q I r h
  obtain ⟨b, rfl, q⟩ := h
  obtain ⟨u, rfl, r1⟩ := vals1 r
  cases r1
  cases b with
  | true => exact PySem.P.str_of_bool ⟨.str "True", H, I.tok _, ⟨_, rfl⟩, q⟩
  | false => exact PySem.P.str_of_bool ⟨.str "False", H, I.tok _, ⟨_, rfl⟩, q⟩
/-- the built-in that a word stands for -/
inductive BV where | fn (id : String) | ty (id : String)
def BV.val : BV → Value
  | .fn id => .builtin id
  | .ty id => .type id
def b1v : B1 → BV
  | .len => .fn "len" | .repr => .fn "repr" | .all => .fn "all" | .any => .fn "any" | .sum => .fn "sum" | .max => .fn "max" | .min => .fn "min" | .tuple => .ty "tuple" | .list => .ty "list" | .ord => .fn "ord" | .sorted => .fn "sorted" | .stro => .ty "str"
def b1n : B1 → Str
  | .len => "len" | .repr => "repr" | .all => "all" | .any => "any" | .sum => "sum" | .max => "max" | .min => "min" | .tuple => "tuple" | .list => "list" | .ord => "ord" | .sorted => "sorted" | .stro => "str"
theorem b1_boot (f : B1) : bootBuiltins (b1n f) = some (b1v f).val := by cases f <;> decide +kernel
theorem b1_name (f : B1) : b1n f ≠ "__name__" ∧ (b1n f == ("__debug__" : Str)) = false := by cases f <;> exact ⟨by decide +kernel, by decide +kernel⟩
theorem opB1_ok (hK : C.K = X.K) (hc : X.calm = true) (hu : X.A.units + 66 < cLine) (hg : X.A.guards = some []) (f : B1) :
    ∃ r, CallR X (b1v f).val r ∧ ∀ (p : Pt) (x : SV) (v : V) (Q : VK), I3 C p → RepB C p x v → opB1 f x p.hp (cont C p Q) → r [v] p.H Q := by
  cases f with
  | len =>
    refine ⟨_, CallR.or call_len_seq call_len_str, fun p x v Q I rx h => ?_⟩
    simp only [opB1] at h
    split at h
    · rw [rx.str]; exact .inr ⟨_, rfl, h.1, cont.hereD I h.2 (.int _)⟩
    · obtain ⟨l, hl, h⟩ := onSome_iff.mp h
      obtain ⟨a, vs, rfl, s, t⟩ := rx.seq I hl
      rw [t.length] at h
      rw [hK] at s
      exact .inl ⟨a, vs, rfl, s, cont.hereD I h (.int _)⟩
  | repr =>
    refine ⟨_, call_reprM hu hg, fun p x v Q I rx h => ?_⟩
    simp only [opB1] at h
    obtain ⟨d, e1, hm, hs, hz, h⟩ := onSome_iff.mp h
    obtain ⟨d1, c1⟩ := rx.dp I e1
    rw [hK] at d1
    exact ⟨v, d, rfl, d1, c1, hm, hs, hz, cont.hereD I h (.str _)⟩
  | all =>
    refine ⟨_, cr_all hc, fun p x v Q I rx h => ?_⟩
    simp only [opB1] at h
    obtain ⟨bs, e1, h⟩ := onSome_iff.mp h
    obtain ⟨l, e2, e3⟩ := Option.bind_eq_some_iff.mp e1
    obtain ⟨a, vs, rfl, s, t⟩ := rx.lst I e2
    have hl := boolsD_eq e3
    subst hl
    have hv := t.bls
    subst hv
    rw [hK] at s
    exact ⟨a, bs, rfl, s, cont.hereD I h (.bl _)⟩
  | any =>
    refine ⟨_, cr_any hc, fun p x v Q I rx h => ?_⟩
    simp only [opB1] at h
    obtain ⟨bs, e1, h⟩ := onSome_iff.mp h
    obtain ⟨l, e2, e3⟩ := Option.bind_eq_some_iff.mp e1
    obtain ⟨a, vs, rfl, s, t⟩ := rx.lst I e2
    have hl := boolsD_eq e3
    subst hl
    have hv := t.bls
    subst hv
    rw [hK] at s
    exact ⟨a, bs, rfl, s, cont.hereD I h (.bl _)⟩
  | sum =>
    refine ⟨_, cr_sum hc, fun p x v Q I rx h => ?_⟩
    simp only [opB1] at h
    obtain ⟨bs, e1, h⟩ := onSome_iff.mp h
    obtain ⟨l, e2, e3⟩ := Option.bind_eq_some_iff.mp e1
    obtain ⟨a, vs, rfl, s, t⟩ := rx.lst I e2
    have hl := intsD_eq e3
    subst hl
    have hv := t.ints
    subst hv
    rw [hK] at s
    exact ⟨a, bs, rfl, s, cont.hereD I h (.int _)⟩
  | max =>
    refine ⟨_, CallR.or (cr_max hc) (cr_maxT hc), fun p x v Q I rx h => ?_⟩
    simp only [opB1] at h
    obtain ⟨bs, e1, h⟩ := onSome_iff.mp h
    obtain ⟨l, e2, e3⟩ := Option.bind_eq_some_iff.mp e1
    obtain ⟨a, vs, rfl, s, t⟩ := rx.seq I e2
    have hl := intsD_eq e3
    subst hl
    have hv := t.ints
    subst hv
    rw [hK] at s
    cases bs with
    | nil => exact h.elim
    | cons m r =>
      have fin : ∀ k, k ∈ m :: r → (∀ y, y ∈ m :: r → y ≤ k) → Q (.int k) p.H := fun k hk hle => by
        obtain ⟨m1, m2⟩ := maxI_spec r m
        have e : k = maxI m r := Int.le_antisymm (m2 k hk) (hle _ m1)
        rw [e]
        exact cont.hereD I h (.int _)
      rcases s with s | s
      · first | exact .inl ⟨a, _, rfl, s, Nat.succ_pos _, fin⟩ | exact .inr ⟨a, _, rfl, s, Nat.succ_pos _, fin⟩
      · first | exact .inl ⟨a, _, rfl, s, Nat.succ_pos _, fin⟩ | exact .inr ⟨a, _, rfl, s, Nat.succ_pos _, fin⟩
  | min =>
    refine ⟨_, CallR.or (cr_min hc) (cr_minT hc), fun p x v Q I rx h => ?_⟩
    simp only [opB1] at h
    obtain ⟨bs, e1, h⟩ := onSome_iff.mp h
    obtain ⟨l, e2, e3⟩ := Option.bind_eq_some_iff.mp e1
    obtain ⟨a, vs, rfl, s, t⟩ := rx.seq I e2
    have hl := intsD_eq e3
    subst hl
    have hv := t.ints
    subst hv
    rw [hK] at s
    cases bs with
    | nil => exact h.elim
    | cons m r =>
      have fin : ∀ k, k ∈ m :: r → (∀ y, y ∈ m :: r → k ≤ y) → Q (.int k) p.H := fun k hk hle => by
        obtain ⟨m1, m2⟩ := minI_spec r m
        have e : k = minI m r := Int.le_antisymm (hle _ m1) (m2 k hk)
        rw [e]
        exact cont.hereD I h (.int _)
      rcases s with s | s
      · first | exact .inl ⟨a, _, rfl, s, Nat.succ_pos _, fin⟩ | exact .inr ⟨a, _, rfl, s, Nat.succ_pos _, fin⟩
      · first | exact .inl ⟨a, _, rfl, s, Nat.succ_pos _, fin⟩ | exact .inr ⟨a, _, rfl, s, Nat.succ_pos _, fin⟩
  | tuple =>
    refine ⟨_, call_tuple_of, fun p x v Q I rx h => ?_⟩
    simp only [opB1] at h
    obtain ⟨l, hl, h2⟩ := onSome_iff.mp h
    clear h
    cases x with
    | od l => exact rx.elim
    | ol m =>
      obtain ⟨a, vs, rfl, s, t⟩ := rx.lst I hl
      rw [hK] at s
      exact ⟨a, vs, rfl, .inl ⟨s, fun q hq => cont.laidT I h2 t hq⟩⟩
    | d x =>
      cases x with
      | tup m =>
        have hl' : some m = some l := hl
        cases hl'
        obtain ⟨a, vs, rfl, n, t⟩ := rx.tup
        exact ⟨a, vs, rfl, .inr ⟨by rw [← hK]; exact n.sq, cont.hereD I h2 (.tup n t)⟩⟩
      | lst m =>
        obtain ⟨a, vs, rfl, s, t⟩ := rx.lst I hl
        rw [hK] at s
        exact ⟨a, vs, rfl, .inl ⟨s, fun q hq => cont.laidT I h2 t hq⟩⟩
      | ref m =>
        obtain ⟨a, vs, rfl, s, t⟩ := rx.lst I hl
        rw [hK] at s
        exact ⟨a, vs, rfl, .inl ⟨s, fun q hq => cont.laidT I h2 t hq⟩⟩
      | non => cases hl
      | bl b => cases hl
      | int b => cases hl
      | str b => cases hl
      | fn b => cases hl
  | list =>
    refine ⟨_, call_list_of, fun p x v Q I rx h => ?_⟩
    simp only [opB1] at h
    obtain ⟨l, hl, h⟩ := onSome_iff.mp h
    obtain ⟨a, vs, rfl, s, t⟩ := rx.seq I hl
    rw [hK] at s
    exact ⟨a, vs, rfl, s, fun q hq => cont.laidO I h t hq⟩
  | ord =>
    refine ⟨_, call_ord, fun p x v Q I rx h => ?_⟩
    simp only [opB1] at h
    split at h
    · rw [rx.str]; exact ⟨_, rfl, h.1, cont.hereD I h.2 (.int _)⟩
    · exact h.elim
  | sorted =>
    refine ⟨_, cr_sortedM hu, fun p x v Q I rx h => ?_⟩
    simp only [opB1] at h
    obtain ⟨l, hl, h⟩ := onSome_iff.mp h
    obtain ⟨ds, hd, ⟨h1, h2⟩, h⟩ := onSome_iff.mp h
    obtain ⟨a, vs, rfl, s, t⟩ := rx.lst I hl
    rw [hK] at s
    have td := t.dp hd
    rw [hK] at td
    refine ⟨a, vs, ds, rfl, s, td, D.pds_lay hd, h1, cmpAll_at h2, fun ys q hy hq => cont.laidO I h ?_ hq⟩
    exact all2_reps (hy D (Rep C.K C.mg p.H (Fb C p)) pdK l (hK ▸ reps_all2 hd t))
  | stro =>
    refine ⟨_, CallR.or call_str_int call_str_bool, fun p x v Q I rx h => ?_⟩
    simp only [opB1] at h
    split at h
    · rw [rx.int]; exact .inl ⟨_, rfl, h.1, cont.hereD I h.2 (.str _)⟩
    · rw [rx.bl]; exact .inr ⟨_, rfl, cont.hereD I h (.str _)⟩
    · exact h.elim
theorem opM1_ok (m : M1) : ∃ T name id r, PlainAttrs T ∧ Slot T name id ∧ typeOf (.builtin id) = pure (.type "method_descriptor") ∧ name = m1n m ∧ MtR X id r ∧
    (∀ (p : Pt) (x y : SV) (v u : V) (Q : VK), I3 C p → RepB C p x v → RepB C p y u → opM1 m x y p.hp (cont C p Q) → r v [u] p.H Q) ∧ (∀ (p : Pt) (x : SV) (v : V), RepB C p x v → recM m x → tyV X.K T v p.H) := by
  cases m with
  | index =>
    refine ⟨"str", "index", _, _, F.plainAttrs_str, F.slot_str_index, F.type_str_index, rfl, mt_sindex, fun p x y v u Q I rx ry h => ?_, fun p x v rx h => by cases x with | d x => (cases x <;> first | exact False.elim h | (rw [rx.str]; exact rfl)) | _ => exact False.elim h⟩
    simp only [opM1] at h
    split at h
    · rw [rx.str, ry.str]
      obtain ⟨i, r, e, h⟩ := h
      exact ⟨_, _, i, r, rfl, rfl, e, cont.hereD I h (.int _)⟩
    · exact h.elim
  | count =>
    refine ⟨"str", "count", _, _, F.plainAttrs_str, F.slot_str_count, F.type_str_count, rfl, mt_count3, fun p x y v u Q I rx ry h => ?_, fun p x v rx h => by cases x with | d x => (cases x <;> first | exact False.elim h | (rw [rx.str]; exact rfl)) | _ => exact False.elim h⟩
    simp only [opM1] at h
theorem opM0_ok (m : M0) : ∃ T name id r, PlainAttrs T ∧ Slot T name id ∧ typeOf (.builtin id) = pure (.type "method_descriptor") ∧ name = m0n m ∧ MtR X id r ∧
    ∀ (p : Pt) (x : SV) (v : V) (Q : VK), I3 C p → RepB C p x v → opM0 m x p.hp (cont C p Q) → tyV X.K T v p.H ∧ r v [] p.H Q := by
  cases m with
  | upper =>
    refine ⟨"str", "upper", _, _, F.plainAttrs_str, F.slot_str_upper, F.type_str_upper, rfl, mt_upper, fun p x v Q I rx h => ?_⟩
    simp only [opM0] at h
    split at h
    · rw [rx.str]
      exact ⟨rfl, _, rfl, rfl, h.1, cont.hereD I h.2 (.str _)⟩
    · exact h.elim
def b2v : B2 → String
  | .min => "min" | .max => "max"
def b2n : B2 → Str
  | .min => "min" | .max => "max"
theorem b2_boot (f : B2) : bootBuiltins (b2n f) = some (.builtin (b2v f)) := by cases f <;> decide +kernel
theorem b2_name (f : B2) : b2n f ≠ "__name__" ∧ (b2n f == ("__debug__" : Str)) = false := by cases f <;> exact ⟨by decide +kernel, by decide +kernel⟩
theorem opB2_ok (hc : X.calm = true) (f : B2) : ∃ r, CallR X (.builtin (b2v f)) r ∧ ∀ (p : Pt) (x y : SV) (v u : V) (Q : VK), I3 C p → RepB C p x v → RepB C p y u → opB2 f x y p.hp (cont C p Q) → r [v, u] p.H Q := by
  cases f with
  | min =>
    refine ⟨_, call_min2 hc, fun p x y v u Q I rx ry h => ?_⟩
    simp only [opB2] at h
    split at h
    · rw [rx.int, ry.int]; exact ⟨_, _, rfl, cont.hereD I h (.int _)⟩
    · exact h.elim
  | max =>
    refine ⟨_, call_max2 hc, fun p x y v u Q I rx ry h => ?_⟩
    simp only [opB2] at h
    split at h
    · rw [rx.int, ry.int]; exact ⟨_, _, rfl, cont.hereD I h (.int _)⟩
    · exact h.elim
def tyn : Ty → String
  | .int => "int" | .bool => "bool" | .str => "str" | .tuple => "tuple" | .list => "list" | .dict => "dict"
def tyS : Ty → Str
  | .int => "int" | .bool => "bool" | .str => "str" | .tuple => "tuple" | .list => "list" | .dict => "dict"
theorem ty_boot (t : Ty) : bootBuiltins (tyS t) = some (.type (tyn t)) := by cases t <;> decide +kernel
theorem ty_name (f : Ty) : tyS f ≠ "__name__" ∧ (tyS f == ("__debug__" : Str)) = false := by cases f <;> exact ⟨by decide +kernel, by decide +kernel⟩
theorem isTy_ok (hK : C.K = X.K) (p : Pt) (t : Ty) (x : SV) (v : V) (b : Bool) (Q : VK) (I : I3 C p) (rx : RepB C p x v) (h : isTy p.hp t x = some b) (q : Q (.bl b) p.H) : rIsi X.K [v, .ty (tyn t)] p.H Q := by
  have viaL : ∀ {a : Addr} {vs : List V}, SqL X.K p.H a vs → TyX X.K p.H (.ref a) (.type "list") := fun {a vs} s => by
    rcases s with (s | ⟨o, s⟩) | ⟨o, its, n, k1, k2, _⟩
    · exact .base (.lst s)
    · exact .base (.frz s)
    · exact .kList k1 k2
  have viaT : ∀ {a : Addr} {vs : List V}, SqT X.K p.H a vs → TyX X.K p.H (.ref a) (.type "tuple") := fun {a vs} s => by
    rcases s with (s | ⟨o, s⟩) | ⟨o, its, n, k1, k2, _⟩
    · exact .base (.tup s)
    · exact .fTuple s
    · exact .kTuple k1 k2
  have fin : ∀ (m : String), TyX X.K p.H v (.type m) → PySem.W.kitOne X.K (.type m) (.type (tyn t)) = some b → rIsi X.K [v, .ty (tyn t)] p.H Q := fun m ty k => ⟨v, _, _, _, b, rfl, .ty _, ty, k, q⟩
  have lstC : ∀ {l : List D}, lstD p.hp x = some l → b = (Ty.list == t || (Ty.list == .bool && t == .int)) → rIsi X.K [v, .ty (tyn t)] p.H Q := fun {l} hl hb => by
    obtain ⟨a, vs, rfl, s, _⟩ := rx.lst I hl
    rw [hK] at s
    refine fin _ (viaL s) ?_
    subst hb
    cases t <;> exact kit_ty (by decide +kernel)
  cases x with
  | od l => exact rx.elim
  | ol l => exact lstC rfl (Option.some.inj h).symm
  | d x =>
    cases x with
    | non =>
      have hb : b = false := (Option.some.inj h).symm
      subst hb
      cases rx
      refine fin _ (.base .non) ?_
      cases t <;> exact kit_ty (by decide +kernel)
    | bl c =>
      have hb := (Option.some.inj h).symm
      subst hb
      cases rx
      refine fin _ (.base (.bl _)) ?_
      cases t <;> exact kit_ty (by decide +kernel)
    | int c =>
      have hb := (Option.some.inj h).symm
      subst hb
      cases rx
      refine fin _ (.base (.int _)) ?_
      cases t <;> exact kit_ty (by decide +kernel)
    | str c =>
      have hb := (Option.some.inj h).symm
      subst hb
      cases rx
      refine fin _ (.base (.str _)) ?_
      cases t <;> exact kit_ty (by decide +kernel)
    | tup c =>
      have hb := (Option.some.inj h).symm
      subst hb
      obtain ⟨a, vs, rfl, n, _⟩ := rx.tup
      refine fin _ (viaT (by rw [← hK]; exact n.sq)) ?_
      cases t <;> exact kit_ty (by decide +kernel)
    | lst l => exact lstC rfl (Option.some.inj h).symm
    | ref a =>
      simp only [isTy, tyOf] at h
      split at h
      · rename_i l e
        refine lstC (l := l) ?_ (Option.some.inj h).symm
        show (match p.hp a with | some (.lst l) => some l | _ => none) = some l
        rw [e]
      · cases h
    | fn f => cases h
end
end Mi

set_option maxHeartbeats 2000000
namespace PySem
open AutoSeq1 (wpAny_loadPart')
/-! enumerate of a tuple -/
theorem meets_enumerate_newTu (l : Addr) (items : Array Value) (n : Nat) (dct : Option Addr) (sl : Array (Option Value)) :
    Meets (Builtin.«enumerate.__new__» ⟨[.type "enumerate", .ref l], []⟩) (fun _ R s => s.heap.get? l = some { cls := .type "tuple", dict := dct, data := .seq items n, slots := sl } ∧
      R (.ok (.ret (.ref (s.heap.push { cls := .type "tuple_iterator", data := .fields #[.ref l, .int 0 0] }).objs.size)))
        { s with heap := (s.heap.push { cls := .type "tuple_iterator", data := .fields #[.ref l, .int 0 0] }).push { cls := .type "enumerate", data := .fields #[.none, .bool false, .ref s.heap.objs.size, rawInt 0, .none, .none] } }) :=
  .of_wp fun prog w A R s h => by
    obtain ⟨hp, g, d, tk, os⟩ := s; obtain ⟨hl, h⟩ := h
    have hsub := sub_enumerate
    have hL : Heap.IsTuple (Shared.heap ⟨hp, g, d, tk, os⟩) l items := ⟨_, hl, rfl, n, rfl⟩
    wp_walk using wpAny_loadPart' hl
    refine wpAny_stack_any fun st => wpAny_pure ?_
    split
    · rename_i c _ _ _ _ _
      cases (c == Value.type "enumerate")
      · wp_walk using wpAny_loadPart' hl, wpAny_pyIter_tuple hL
        exact ⟨_, rfl, h⟩
      · wp_walk using wpAny_loadPart' hl, wpAny_pyIter_tuple hL
        exact ⟨_, rfl, h⟩
    · wp_walk using wpAny_loadPart' hl, wpAny_pyIter_tuple hL
      exact ⟨_, rfl, h⟩
section
variable {prog : Program} {w : World} {A : Around} {E : Value → Shared → Prop} {s : Shared}
theorem call_enumerate_tuple {l : Addr} {items : Array Value} {Q : Value → Shared → Prop} (hL : s.heap.IsTuple l items)
    (h : ∀ h', IsEnum h' (s.heap.objs.size + 1) s.heap.objs.size 0 .none → h'.IsTupleIter s.heap.objs.size l 0 → h'.objs.size = s.heap.objs.size + 2 →
      (∀ b o, s.heap.get? b = some o → h'.get? b = some o) → Q (.ref (s.heap.objs.size + 1)) { s with heap := h' }) :
    wpAny (model prog w) A (call (.type "enumerate") [.ref l]) Q E s := by
  obtain ⟨⟨c, dct, dt, sl⟩, hl, hc, n, hd⟩ := hL
  replace hc : c = .type "tuple" := hc
  replace hd : dt = .seq items n := hd
  subst hc hd
  refine callType_new F.called_enumerate (by decide) (F.typeCall_enumerate_1 _) (F.newCall_enumerate_1 _) (fun obj => F.args_object_init_2 obj _) F.entry_enumerate_new
    (meets_enumerate_newTu l items n dct sl) ⟨hl, ?_⟩
  have hz : (s.heap.push { cls := .type "tuple_iterator", data := .fields #[.ref l, .int 0 0] }).objs.size = s.heap.objs.size + 1 := Heap.size_push ..
  show _ ∧ _
  rw [hz]
  have he : IsEnum ((s.heap.push { cls := .type "tuple_iterator", data := .fields #[.ref l, .int 0 0] }).push
      { cls := .type "enumerate", data := .fields #[.none, .bool false, .ref s.heap.objs.size, rawInt 0, .none, .none] }) (s.heap.objs.size + 1) s.heap.objs.size 0 .none := by
    have := Heap.get?_push_size (s.heap.push { cls := .type "tuple_iterator", data := .fields #[.ref l, .int 0 0] })
      (o := { cls := .type "enumerate", data := .fields #[.none, .bool false, .ref s.heap.objs.size, rawInt 0, .none, .none] }) rfl
    rw [hz] at this; exact this
  refine ⟨⟨_, he, rfl⟩, h _ he ⟨_, Heap.get?_push_of_some _ (Heap.get?_push_size _ rfl), rfl, rfl⟩ (by rw [Heap.size_push, hz]) fun b o x => Heap.get?_push_of_some _ (Heap.get?_push_of_some _ x)⟩
end
end PySem
namespace Mi
open PySem PySem.Spec PyProof.Rows L2
/-- the tuple at a at each turn, each item in a new pair -/
def IteT (K : PySem.W.Frag) (a : Addr) : L2.It :=
  ⟨fun i H => ∃ (xs : List V) (x : V), SqT K H a xs ∧ xs[i]? = some x, fun i H v H' => ∃ T x, v = .ref T ∧ H T = none ∧ H' = upd H T (.tup [.int (i : Nat), x]) ∧ ∀ xs, SqT K H a xs → xs[i]? = some x, fun i H => ∃ xs : List V, SqT K H a xs ∧ xs.length ≤ i⟩
theorem turn_enumT {P : Program} {w : World} {K : PySem.W.Frag} {elts : List Expr} {kk : Nat} {tpos : Pos} (a e it : Addr) (hait : a ≠ it) (hae : a ≠ e) :
    Turn P w K (.Tuple elts kk tpos) (IteT K a) [e, it] e (fun i h => (∃ old, IsEnum h e it ((i : Nat) : Int) old) ∧ h.IsTupleIter it a i ∧ e ≠ it) where
  mem := by simp
  obj := fun i h st b hb => by
    obtain ⟨⟨old, he⟩, ⟨o, ho, hc, hd⟩, _⟩ := st
    have e' : b = e ∨ b = it := by simpa using hb
    rcases e' with z | z
    · rw [z]; exact ⟨_, he, fun v q => nomatch q⟩
    · rw [z]; exact ⟨o, ho, fun v q => by rw [hd] at q; cases q⟩
  keep := fun i h h' st k => let ⟨⟨old, he⟩, hi, hne⟩ := st; ⟨⟨old, k e (by simp) _ he⟩, hi.at fun o q => k it (by simp) o q, hne⟩
  item := by
    intro X hP hw hK hc i pins s σ H E I hf st hg
    subst hP hw hK
    obtain ⟨⟨old, he⟩, hit, hne⟩ := st
    obtain ⟨xs, x, hq, hx⟩ := hg
    obtain ⟨its, rv, p, hz⟩ := I.tuple hq
    obtain ⟨u, hu, ru⟩ := rv.get hx
    have pT : s.heap.IsTuple a its.toArray := p
    have hel : e < s.heap.objs.size := Heap.lt_size he
    have hil : it < s.heap.objs.size := by obtain ⟨_, q, _⟩ := hit; exact Heap.lt_size q
    have hlt : i < its.toArray.size := by
      have := (List.getElem?_eq_some_iff.mp hu).1
      simpa using this
    refine wpAny_pyNext_enum_itemD (Draws.tuple (show X.A.in1.handled = none from I.ok.hd hc) it a hait its.toArray) he ⟨hit, pT⟩ hlt hne (by simp; exact ⟨hne, fun z => hae z.symm⟩) fun v h' tk hP ho hst hT hsz hk => ?_
    have ev : v = u := by
      have hP : its.toArray[i]? = some v := hP
      rw [List.getElem?_toArray, hu] at hP
      exact (Option.some.inj hP).symm
    subst ev
    refine ⟨_, rfl, wpAny_letOwnedTupleGo_enum (s := { s with heap := h', toks := tk + 1 }) ho fun h'' he' sb => ?_⟩
    have hT2 : h''.get? s.heap.objs.size = some { cls := .type "tuple", data := .seq #[.int i tk, v] } := (sb.2 _ (Nat.ne_of_gt hel)).trans hT
    have new : ObjOk X.prog X.w (upd H s.heap.objs.size (.tup [.int (i : Nat), x])) h'' s.heap.objs.size (.tup [.int (i : Nat), x]) :=
      ⟨by show 2 ≤ sizeLine; decide, [.int i tk, v], .cons ⟨_, rfl⟩ (.cons ru .nil), ⟨_, hT2, rfl, _, rfl⟩⟩
    have I1 : Inv X pins σ (upd H s.heap.objs.size (.tup [.int (i : Nat), x])) { s with heap := h'', toks := tk + 1 } :=
      I.turnedNew (ch := [e, it]) (fun b ob hb q => (sb.2 b (fun z => hb (by simp [z]))).trans (hk b ob (fun z => hb (by simp [z])) (fun z => hb (by simp [z])) q)) hf (Nat.le_refl _) new
    refine ⟨.ref s.heap.objs.size, _, I1, rfl, ⟨_, x, rfl, I.hok.fresh (Nat.le_refl _), rfl, fun ys hy => by rw [I.tuple_inj hy hq]; exact hx⟩, ⟨⟨v, ?_⟩, hst.1.at fun o q => (sb.2 it (Ne.symm hne)).trans q, hne⟩, fun b hb => ?_⟩
    · have e1 : ((i + 1 : Nat) : Int) = (i : Int) + 1 := by omega
      rw [e1]; exact he'
    · have hb' : b < s.heap.objs.size := by
        have e' : b = e ∨ b = it := by simpa using hb
        rcases e' with z | z
        · rw [z]; exact hel
        · rw [z]; exact hil
      rw [upd_ne (Nat.ne_of_lt hb')]
      exact (hf b hb).1
  done := by
    intro X hP hw hK hc i pins s σ H E I hf st hg
    subst hP hw hK
    obtain ⟨⟨old, he⟩, hit, hne⟩ := st
    obtain ⟨xs, hq, hx⟩ := hg
    obtain ⟨its, rv, p, hz⟩ := I.tuple hq
    obtain ⟨f0, f1, f2, f3, f4, f5⟩ := hf it (by simp)
    have hl := rv.length
    have hh : X.A.in1.handled = none := I.ok.hd hc
    have pT : s.heap.IsTuple a its.toArray := p
    -- an iterator that stands behind its tuple's end
    have D : Draws X.prog X.w X.A.in1 it [it, a] i (fun j v => its.toArray[j]? = some v ∧ j < its.toArray.size) (fun j h => j = i ∧ h.IsTupleIter it a i ∧ h.IsTuple a its.toArray) := {
      live := fun _ _ st => let ⟨o, ho, _⟩ := st.2.1; ⟨o, ho⟩
      frame := fun _ _ _ st hk => ⟨st.1, st.2.1.at fun o e => hk it (by simp) o e, st.2.2.at fun o e => hk a (by simp) o e⟩
      item := fun j s Q E hi st hQ => absurd st.1 (Nat.ne_of_lt hi)
      done := fun s Q E st hE => wpAny_nextOf_tuple_end hh st.2.1 st.2.2 (by simp; omega) hE }
    exact wpAny_pyNext_enum_endD D he ⟨rfl, hit, pT⟩ fun h' eb => ⟨rfl, I.turned (t' := s.toks) (fun b o hb q => eb b o hb q) f0 f1 f3 f4 f5⟩
  self := fun A i s Q E st h => let ⟨⟨_, he⟩, _⟩ := st; wpAny_pyIter_enum he h
def iEnumQ (K : PySem.W.Frag) (ta : TA) : TI := fun σ H R => ta σ H fun vs H1 => ∃ a, vs = [.ref a] ∧ ((∃ xs, SqL K H1 a xs ∧ R (Ite K a) H1) ∨ ∃ xs, SqT K H1 a xs ∧ R (IteT K a) H1)
theorem pi_enumQ {X : Cx} {e : Expr} {ta : TA} {p pos tpos : Pos} {elts : List Expr} {kk : Nat} (hg : Gl X "enumerate") (hm : X.mg "enumerate" = none) (ha : PA X [e] ta) (hs : starEach [e] X.env = [(false, eval e X.env)]) :
    PI X (.Tuple elts kk tpos) (.Call (.Name "enumerate" p) [e] [] pos) (iEnumQ X.K ta) := by
  refine ⟨fun pins s σ H R I h => ?_⟩
  refine Call_ (ld_blt I hg hm boot_enumerate (PyProof.Rows.callWith_type1 (thn (ha.run pos pins s σ H _ I h) fun us s1 ⟨vs, H1, I1, r1, q1⟩ => ?_) hs rfl))
  obtain ⟨a, ex, q⟩ := q1
  subst ex
  cases r1 with
  | cons r rr =>
    cases rr
    cases r
    have fpA : ∀ b ∈ [s1.heap.objs.size + 1, s1.heap.objs.size], s1.heap.objs.size ≤ b := fun b hb => by
      have e' : b = s1.heap.objs.size + 1 ∨ b = s1.heap.objs.size := by simpa using hb
      rcases e' with z | z
      · rw [z]; exact Nat.le_add_right _ _
      · rw [z]; exact Nat.le_refl _
    rcases q with ⟨xs, hq, q⟩ | ⟨xs, hq, q⟩
    · obtain ⟨its, rv, p', hz⟩ := I1.list hq
      refine call_enumerate_list p'.isList fun h' he hit hsz hk => wpAny_pyIter_enum he ?_
      have I2 : Inv X pins σ H1 { s1 with heap := h' } := I1.kept (t' := s1.toks) hk
      exact ⟨s1.heap.objs.size + 1, [s1.heap.objs.size + 1, s1.heap.objs.size], _, _, H1, rfl, I2, turn_enum a (s1.heap.objs.size + 1) s1.heap.objs.size, ⟨⟨.none, he⟩, hit, Nat.succ_ne_self _⟩, fun b hb => I1.fpOk (fpA b hb) (I1.hok.fresh (fpA b hb)), q⟩
    · obtain ⟨its, rv, p', hz⟩ := I1.tuple hq
      have pT : s1.heap.IsTuple a its.toArray := p'
      have hlt : a < s1.heap.objs.size := by obtain ⟨o, ho, _⟩ := pT; exact Heap.lt_size ho
      refine call_enumerate_tuple pT fun h' he hit hsz hk => wpAny_pyIter_enum he ?_
      have I2 : Inv X pins σ H1 { s1 with heap := h' } := I1.kept (t' := s1.toks) hk
      exact ⟨s1.heap.objs.size + 1, [s1.heap.objs.size + 1, s1.heap.objs.size], _, _, H1, rfl, I2, turn_enumT a (s1.heap.objs.size + 1) s1.heap.objs.size (Nat.ne_of_lt hlt) (Nat.ne_of_lt (Nat.lt_succ_of_lt hlt)), ⟨⟨.none, he⟩, hit, Nat.succ_ne_self _⟩, fun b hb => I1.fpOk (fpA b hb) (I1.hok.fresh (fpA b hb)), q⟩
end Mi

namespace Mi
open PySem PySem.Spec PyProof.Rows L2

/-! ### x[::-1] -/
theorem rev_adjust (n : Nat) : Builtin.Slice.sliceAdjust none none (-1) (n : Int) = ((n : Int) - 1, -1) := by
  unfold Builtin.Slice.sliceAdjust
  simp
theorem rev_places (n : Nat) : Builtin.Slice.slicePlaces ((n : Int) - 1) (-1) (-1) = n := by
  unfold Builtin.Slice.slicePlaces
  have h1 : ¬ ((-1 : Int) > 0) := by decide
  simp only [h1, if_false, show (- -1 : Int) = 1 by decide, Int.ediv_one]
  split <;> omega
theorem fm_congr {α β : Type} {f g : α → Option β} : ∀ {l : List α}, (∀ x ∈ l, f x = g x) → l.filterMap f = l.filterMap g
  | [], _ => rfl
  | x :: l, h => by
    rw [List.filterMap_cons, List.filterMap_cons, h x List.mem_cons_self, fm_congr fun y hy => h y (List.mem_cons_of_mem _ hy)]
theorem rev_pick (xs : Array Value) : ((List.range xs.size).filterMap fun (m : Nat) => xs[((xs.size : Int) - 1 + (m : Int) * (-1)).toNat]?).toArray = xs.toList.reverse.toArray := by
  have e : (List.range xs.size).filterMap (fun (m : Nat) => xs[((xs.size : Int) - 1 + (m : Int) * (-1)).toNat]?) = ((List.range xs.size).map fun k => xs.size - 1 - k).filterMap (xs[·]?) := by
    rw [List.filterMap_map]
    refine fm_congr fun m hm => ?_
    have := List.mem_range.mp hm
    show _ = xs[xs.size - 1 - m]?
    congr 1
    omega
  rw [e, PySem.W.krv_range, List.filterMap_reverse, PySem.W.krv_all]
section
variable {prog : Program} {w : World} {A : Around} {E : Value → Shared → Prop} {s : Shared}
theorem rev_applied {sl : Addr} {t : Tok} {n : Nat} {Q : Int × Int × Nat → Shared → Prop} (hs : s.heap.IsSliceOf sl .none .none (.int (-1) t)) (h : Q ((n : Int) - 1, -1, n) s) :
    wpAny (model prog w) A (Builtin.Slice.sliceApplied (.ref sl) (pure (n : Int))) Q E s := by
  obtain ⟨os, hos, hcs, hds⟩ := id hs
  unfold Builtin.Slice.sliceApplied Builtin.Slice.sliceFields
  refine wpAny_bind (wpAny_bind (wpAny_field hos hds (x := .none) rfl (wpAny_bind (wpAny_field hos hds (x := .none) rfl (wpAny_bind (wpAny_field hos hds (x := .int (-1) t) rfl (wpAny_pure ?_)))))))
  refine wpAny_bind (slicePart_int ?_)
  show wpAny _ _ (if ((-1 : Int) == 0) = true then _ else _) _ _ s
  rw [if_neg (by decide)]
  refine wpAny_bind (slicePart_none (wpAny_bind (slicePart_none (wpAny_bind (wpAny_pure ?_)))))
  show wpAny _ _ (match Builtin.Slice.sliceAdjust none none (-1) (n : Int) with | (a, b) => pure (a, (-1 : Int), Builtin.Slice.slicePlaces a b (-1))) _ _ s
  rw [rev_adjust]
  show wpAny _ _ (pure ((n : Int) - 1, (-1 : Int), Builtin.Slice.slicePlaces ((n : Int) - 1) (-1) (-1))) _ _ s
  rw [rev_places]
  exact wpAny_pure h
theorem rev_tuple {t sl : Addr} {tk : Tok} {items : Array Value} {Q : Value → Shared → Prop} (ht : IsTup s.heap t items) (hs : s.heap.IsSliceOf sl .none .none (.int (-1) tk))
    (h : Q (.ref s.heap.objs.size) { s with heap := s.heap.push { cls := .type "tuple", data := .seq items.toList.reverse.toArray } }) (hsz : items.size ≤ sizeLine) : wpAny (model prog w) A (getItem (.ref t) (.ref sl)) Q E s := by
  have hok : sizeOk (.seq items.toList.reverse.toArray) := by
    show items.toList.reverse.toArray.size ≤ sizeLine
    simpa using hsz
  obtain ⟨os, hos, hcs, hds⟩ := id hs
  have hTs : s.TypeIs (.ref sl) "slice" := ⟨os, hos, hcs⟩
  unfold getItem
  try with_reducible refine wpAny_holding ?_
  first
    | refine wpAny_bind (wpAny_pure ?_)
    | skip
  refine wpAny_bind (wpAny_sequenceKey ht.typeIs (by decide) ?_)
  refine wpAny_bind (wpAny_callSpecial?_slot (name := Str.ofString "__getitem__") ht.typeIs PyProof.Rows.slot_tuple_getitem (wpAny_call_entry PyProof.Rows.slot_tuple_getitem ht.typeIs entry_tuple_getitem ?_ (args_tuple_getitem _ _)))
  show wpAny _ _ (Builtin.Tuple.tupleItemsOf (.ref t) >>= _) _ _ s
  refine wpAny_bind (tupleItemsOf_ ht (wpAny_bind (wpAny_typeOf hTs ?_)))
  rw [if_pos (by decide)]
  refine wpAny_bind (rev_applied (n := items.size) hs ?_)
  have hno : ¬ (((items.size : Int) - 1 == 0 && (-1 : Int) == 1 && items.size == items.size) = true) := by simp
  show wpAny _ _ (if ((items.size : Int) - 1 == 0 && (-1 : Int) == 1 && items.size == items.size) = true then _ else _) _ _ s
  rw [if_neg hno, rev_pick]
  first
    | exact wpAny_bind (m := Builtin.Tuple.tupleExact _) (wpAny_newObj_type (wpAny_pure ⟨_, rfl, wpAny_pure h⟩) hok)
    | exact wpAny_bind (m := Builtin.Tuple.tupleExact _) (wpAny_newObj_type (wpAny_bind (wpAny_pure (wpAny_pure ⟨_, rfl, wpAny_pure h⟩))) hok)
end
section
variable {X : Cx}
/-- x[::-1] by values: the slice object stands at sl -/
def BkR (X : Cx) (r : V → Hp → VK → Prop) : Prop :=
  ∀ (pins : List (Addr × Obj)) (s : Shared) (σ : L2.St) (H : Hp) (x : V) (v : Value) (t : Tok) (sl : Addr) (Q : VK), L2.Inv X pins σ H s → RelV x v → s.heap.IsSliceOf sl .none .none (.int (-1) t) → r x H Q →
    ∃ T id, typeLookup (.type T) "__getitem__" = pure (some (.builtin id)) ∧ s.TypeIs v T ∧ wpAny (model X.prog X.w) X.A (getItem v (.ref sl)) (EP X pins σ Q) X.xe s
theorem BkR.or {r r' : V → Hp → VK → Prop} (h : BkR X r) (h' : BkR X r') : BkR X (fun x H Q => r x H Q ∨ r' x H Q) := fun pins s σ H x v t sl Q I rx hs q => q.elim (fun q => h pins s σ H x v t sl Q I rx hs q) fun q => h' pins s σ H x v t sl Q I rx hs q
theorem bk_tup : BkR X (fun x H Q => ∃ a xs, x = .ref a ∧ SqT X.K H a xs ∧ ∀ p, H p = none → Q (.ref p) (upd H p (.tup xs.reverse))) := by
  rintro pins s σ H x v t sl Q I rx hs ⟨a, xs, rfl, hx, q⟩
  cases rx
  obtain ⟨its, r, ht, hz⟩ := I.tuple hx
  have hlen := r.length
  refine ⟨"tuple", _, PyProof.Rows.slot_tuple_getitem.lookup, ht.typeIs, rev_tuple ht hs ?_ (by rw [List.size_toArray]; omega)⟩
  refine ⟨.ref s.heap.objs.size, _, I.laid (t' := s.toks) (o := .tup xs.reverse) (fun b ob e => Heap.get?_push_of_some _ e) (Nat.le_refl _) ?_, rfl, q _ (I.hok.fresh (Nat.le_refl _))⟩
  exact ⟨by rw [List.length_reverse]; exact hz, _, r.reverse, IsTup.new _ _⟩
theorem bk_lst : BkR X (fun x H Q => ∃ a xs, x = .ref a ∧ SqL X.K H a xs ∧ ∀ p, H p = none → Q (.ref p) (upd H p (.lst xs.reverse))) := by
  rintro pins s σ H x v t sl Q I rx hs ⟨a, xs, rfl, hx, q⟩
  cases rx
  obtain ⟨its, r, ht, hz⟩ := I.list hx
  have hlen := r.length
  refine ⟨"list", _, PySem.slot_list_getitem.lookup, ht.isList.typeIs, wpAny_getItem_list_slice ht.isList hs .none .none (.int (-1) t) (by decide) ?_ (by rw [List.size_toArray]; omega)⟩
  rw [PySem.W.krv_pick]
  refine ⟨.ref _, _, I.laid (t' := s.toks) (o := .lst xs.reverse) (fun b ob e => Heap.get?_push_of_some _ e) (Nat.le_refl _) ?_, rfl, q _ (I.hok.fresh (Nat.le_refl _))⟩
  exact ⟨by rw [List.length_reverse]; exact hz, _, 0, r.reverse, Heap.get?_push_size _ rfl⟩
theorem bk_str : BkR X (fun x H Q => ∃ z, x = .str z ∧ (revS z).length ≤ sizeLine ∧ Q (.str (revS z)) H) := by
  rintro pins s σ H x v t sl Q I rx hs ⟨z, rfl, hz, q⟩
  obtain ⟨tk, rfl⟩ := rx
  obtain ⟨os, hos, hcs, hds⟩ := hs
  refine ⟨"str", _, F.slot_str_getitem.lookup, typeIs_str _ _ _, ?_⟩
  refine wpAny_getItem_str_slice (l := none) (u := none) (st := some (-1, t)) ⟨os, hos, hcs, hds⟩ rfl ?_
  exact ⟨hz, .str _, H, I.tok _, ⟨_, rfl⟩, q⟩
theorem pe_back {r : V → Hp → VK → Prop} {e : Expr} {te : TE} {k : Nat} {p1 p2 p3 pos : Pos} (hr : BkR X r) (he : PE X e te) :
    PE X (.Subscript e (.Slice none none (some (.UnaryOp .USub (.Constant (.int 1) k p1) p2)) p3) pos) (fun σ H Q => te σ H fun x H1 => r x H1 Q) := by
  refine ⟨fun pins s σ H Q I h => Subscript_ (thn (he.run pins s σ H _ I h) ?_)⟩
  rintro v s1 ⟨x, H1, I1, r1, q1⟩
  have hst : PO X (some (.UnaryOp .USub (.Constant (.int 1) k p1) p2)) (tPart (tUn (rU fun i => .int (-i)) (tC (.int 1)))) := po_some (pe_un un_neg pe_int)
  refine wpAny_Slice (thn (po_none.run pins s1 σ H1 (fun o H2 => o = none ∧ H2 = H1) I1 ⟨rfl, rfl⟩) ?_)
  rintro vl s2 ⟨l, H2, I2, pl, rfl, rfl⟩
  refine thn (po_none.run pins s2 σ H2 (fun o H3 => o = none ∧ H3 = H2) I2 ⟨rfl, rfl⟩) ?_
  rintro vu s3 ⟨u, H3, I3, pu, rfl, rfl⟩
  refine thn (hst.run pins s3 σ H3 (fun o H4 => o = some (-1) ∧ H4 = H3) I3 ⟨1, rfl, -1, rfl, rfl, rfl⟩) ?_
  rintro vs s4 ⟨o, H4, I4, ps, rfl, rfl⟩
  cases pl
  cases pu
  cases ps with
  | int _ t =>
    have I5 : L2.Inv X pins σ H4 { s4 with heap := s4.heap.push { cls := .type "slice", data := .fields #[.none, .none, .int (-1) t] } } := I4.kept (t' := s4.toks) fun b ob e => Heap.get?_push_of_some _ e
    obtain ⟨T, id, hT, ht, hg⟩ := hr pins _ σ H4 x v t s4.heap.objs.size Q I5 r1 (Heap.IsSliceOf.new ..) q1
    show wpAny (model X.prog X.w) X.A (subscriptTail e (.Slice none none (some (.UnaryOp .USub (.Constant (.int 1) k p1) p2)) p3) v (.ref s4.heap.objs.size)) (EP X pins σ Q) X.xe { s4 with heap := s4.heap.push { cls := .type "slice", data := .fields #[.none, .none, .int (-1) t] } }
    exact tail_any (ops := [v, .ref s4.heap.objs.size]) ht hT hg (by with_unfolding_all rfl)
theorem opBack_ok {C : BC} (hK : C.K = X.K) : ∃ r, BkR X r ∧ ∀ (p : Pt) (x : SV) (v : V) (Q : VK), I3 C p → RepB C p x v → opBack x p.hp (cont C p Q) → r v p.H Q := by
  refine ⟨_, BkR.or bk_str (BkR.or bk_tup bk_lst), fun p x v Q I rx h => ?_⟩
  simp only [opBack] at h
  split at h
  · obtain ⟨a, vs, rfl, n, t⟩ := rx.tup
    exact .inr (.inl ⟨a, vs.reverse.reverse, rfl, by rw [List.reverse_reverse, ← hK]; exact n.sq, fun q hq => by rw [List.reverse_reverse]; exact cont.laidT I h t.reverse hq⟩)
  · rw [rx.str]
    exact .inl ⟨_, rfl, h.1, cont.hereD I h.2 (.str _)⟩
  · obtain ⟨l, hl, h⟩ := onSome_iff.mp h
    obtain ⟨a, vs, rfl, s, t⟩ := rx.lst I hl
    exact .inr (.inr ⟨a, vs, rfl, by rw [← hK]; exact s, fun q hq => cont.laidO I h t.reverse hq⟩)
end
end Mi

namespace Mi
open PySem PySem.Spec PyProof.Rows L2

/-! ### expressions' readings -/
abbrev WE := Ev → HpD → SK → Prop
def liftE (C : BC) (w : WE) : TE := fun σ H Q => ∃ ev hp, I3 C ⟨ev, σ, hp, H⟩ ∧ w ev hp (cont C ⟨ev, σ, hp, H⟩ Q)
/-- a look: who holds it is not asked -/
def contB (C : BC) (p : Pt) (Q : VK) : SK := fun x hp' => ∀ v H', I3 C (p.wh hp' H') → KE p (p.wh hp' H') → RepB C (p.wh hp' H') x v → Q v H'
def liftB (C : BC) (w : WE) : TE := fun σ H Q => ∃ ev hp, I3 C ⟨ev, σ, hp, H⟩ ∧ w ev hp (contB C ⟨ev, σ, hp, H⟩ Q)
def WMono (w : WE) : Prop := ∀ ev hp Q Q', SKle Q Q' → w ev hp Q → w ev hp Q'
theorem PE.imp {X : Cx} {e : Expr} {t t' : TE} (h : PE X e t) (f : ∀ σ H Q, t' σ H Q → t σ H Q) : PE X e t' := ⟨fun pins s σ H Q I q => h.run pins s σ H Q I (f σ H Q q)⟩
theorem PT.imp {X : Cx} {e : Expr} {t t' : TT} (h : PT X e t) (f : ∀ σ H Q, t' σ H Q → t σ H Q) : PT X e t' := ⟨fun pins s σ H Q I q => h.run pins s σ H Q I (f σ H Q q)⟩
theorem PS.imp {X : Cx} {e : Stmt} {t t' : TS} (h : PS X e t) (f : ∀ D σ H, t' D σ H → t D σ H) : PS X e t' := ⟨fun pins s σ H D I q => h.run pins s σ H D I (f D σ H q)⟩
theorem PSs.imp {X : Cx} {e : List Stmt} {t t' : TS} (h : PSs X e t) (f : ∀ D σ H, t' D σ H → t D σ H) : PSs X e t' := ⟨fun pins s σ H D I q => h.run pins s σ H D I (f D σ H q)⟩
theorem PA.imp {X : Cx} {e : List Expr} {t t' : TA} (h : PA X e t) (f : ∀ σ H Q, t' σ H Q → t σ H Q) : PA X e t' := ⟨fun pos pins s σ H Q I q => h.run pos pins s σ H Q I (f σ H Q q)⟩
theorem PG.imp {X : Cx} {e : Expr} {t t' : TG} (h : PG X e t) (f : ∀ v σ H Q, t' v σ H Q → t v σ H Q) : PG X e t' := by
  cases h with
  | mk r => exact ⟨by intros; apply r <;> first | assumption | exact f _ _ _ _ (by assumption)⟩
theorem PI.imp {X : Cx} {tg e : Expr} {t t' : TI} (h : PI X tg e t) (f : ∀ σ H R, t' σ H R → t σ H R) : PI X tg e t' := ⟨fun pins s σ H R I q => h.run pins s σ H R I (f σ H R q)⟩

/-! ### what is walked -/
def Rl (b : Bool) (p0 p : Pt) : Prop := match b with
  | true => KE p0 p
  | false => KS p0 p
/-- from one ghost to another, from p on -/
structure CLe (p : Pt) (C C' : BC) : Prop where
  K : C'.K = C.K
  mg : C'.mg = C.mg
  g : ∀ a o, p.H a = some o → ¬ C.G a → ¬ C'.G a
theorem CLe.refl (p : Pt) (C : BC) : CLe p C C := ⟨rfl, rfl, fun _ _ _ h => h⟩
theorem KS.kpC {C C' : BC} {p p' : Pt} (k : KS p p') (c : CLe p C C') : Kp p.H (Fb C p) p'.H (Fb C' p') := fun a o e f => by
  have h1 : p.hp a = none := by
    cases q : p.hp a with
    | none => rfl
    | some o => exact absurd (.inl (by rw [q]; exact nofun)) f
  obtain ⟨x, y, z⟩ := k.1 a o e h1 (fun z => f (.inr (.inl z)))
  refine ⟨x, fun w => ?_⟩
  rcases w with w | w | w
  · exact w y
  · exact z w
  · exact c.g a o e (fun w => f (.inr (.inr w))) w
theorem Rep.ksC {C C' : BC} {p p' : Pt} (k : KS p p') (c : CLe p C C') {x : D} {v : V} (h : RepP C p x v) : RepP C' p' x v := by
  have h2 := Rep.keep (k.kpC c) h
  rw [← c.K, ← c.mg] at h2
  exact h2
theorem Reps.ksC {C C' : BC} {p p' : Pt} (k : KS p p') (c : CLe p C C') {x : List D} {v : List V} (h : RepsP C p x v) : RepsP C' p' x v := by
  have h2 := Reps.keep (k.kpC c) h
  rw [← c.K, ← c.mg] at h2
  exact h2
theorem RepB.ks {C C' : BC} {p p' : Pt} (k : KS p p') (c : CLe p C C') : ∀ {x : SV} {v : V}, Fresh p x v → RepB C p x v → RepB C' p' x v
  | .d x, v, _, h => Rep.ksC k c h
  | .ol l, v, f, ⟨a, vs, e, h1, h2, h3, h4⟩ => ⟨a, vs, e, (k.1 _ _ h1 h2 (f a e)).1, (k.1 _ _ h1 h2 (f a e)).2.1, c.g _ _ h1 h3, Reps.ksC k c h4⟩
  | .od _, _, _, h => h
theorem RepB.keC {C C' : BC} {p p' : Pt} (k : KE p p') (c : CLe p C C') : ∀ {x : SV} {v : V}, RepB C p x v → RepB C' p' x v
  | .d x, v, h => Rep.ksC k.ks c h
  | .ol l, v, ⟨a, vs, e, h1, h2, h3, h4⟩ => ⟨a, vs, e, (k.3 _ _ h1 h2).1, (k.3 _ _ h1 h2).2, c.g _ _ h1 h3, Reps.ksC k.ks c h4⟩
  | .od _, _, h => h
theorem RepB.rl {C C' : BC} {b : Bool} {p p' : Pt} (k : Rl b p p') (c : CLe p C C') {x : SV} {v : V} (f : b = false → Fresh p x v) (h : RepB C p x v) : RepB C' p' x v := by
  cases b with
  | true => exact h.keC k c
  | false => exact h.ks k c (f rfl)
structure WalkJ (b : Bool) (C : BC) (J : L2.It) (p0 : Pt) (s : Src) : Prop where
  go : ∀ (C' : BC) (p : Pt) (i : Nat) (x : D), CLe p0 C C' → I3 C' p → Rl b p0 p → s.g p.hp → s.l[i]? = some x → J.go i p.H ∧ ∀ v H', J.yld i p.H v H' → I3 C' (p.wH H') ∧ KE p (p.wH H') ∧ RepP C' (p.wH H') x v
  stop : ∀ (C' : BC) (p : Pt) (i : Nat), CLe p0 C C' → I3 C' p → Rl b p0 p → s.g p.hp → s.l.length ≤ i → J.stop i p.H
abbrev WI := Ev → HpD → (Src → HpD → Prop) → Prop
def contI (b : Bool) (C : BC) (p : Pt) (R : L2.It → Hp → Prop) : Src → HpD → Prop := fun s hp' => ∀ J H', I3 C (p.wh hp' H') → KE p (p.wh hp' H') → WalkJ b C J (p.wh hp' H') s → s.g hp' → R J H'
def liftI (b : Bool) (C : BC) (w : WI) : TI := fun σ H R => ∃ ev hp, I3 C ⟨ev, σ, hp, H⟩ ∧ w ev hp (contI b C ⟨ev, σ, hp, H⟩ R)

theorem rangeD_len : ∀ (n : Nat) (lo : Int), (rangeD lo n).length = n
  | 0, _ => rfl
  | n + 1, lo => by simp [rangeD, rangeD_len n]
theorem rangeD_get : ∀ (n : Nat) (lo : Int) (i : Nat) (x : D), (rangeD lo n)[i]? = some x → i < n ∧ x = .int (lo + i)
  | 0, lo, i, x, h => by simp [rangeD] at h
  | n + 1, lo, 0, x, h => by simp [rangeD] at h; exact ⟨Nat.succ_pos _, by rw [← h]; simp⟩
  | n + 1, lo, i + 1, x, h => by
    simp only [rangeD, List.getElem?_cons_succ] at h
    obtain ⟨h1, h2⟩ := rangeD_get n (lo + 1) i x h
    exact ⟨by omega, by rw [h2]; congr 1; omega⟩
theorem downD_len : ∀ (n : Nat) (lo : Int), (downD lo n).length = n
  | 0, _ => rfl
  | n + 1, lo => by simp [downD, downD_len n]
theorem downD_get : ∀ (n : Nat) (lo : Int) (i : Nat) (x : D), (downD lo n)[i]? = some x → i < n ∧ x = .int (lo - i)
  | 0, lo, i, x, h => by simp [downD] at h
  | n + 1, lo, 0, x, h => by simp [downD] at h; exact ⟨Nat.succ_pos _, by rw [← h]; simp⟩
  | n + 1, lo, i + 1, x, h => by
    simp only [downD, List.getElem?_cons_succ] at h
    obtain ⟨h1, h2⟩ := downD_get n (lo - 1) i x h
    exact ⟨by omega, by rw [h2]; congr 1; omega⟩
section
variable {X : Cx} {C : BC} {b : Bool}
theorem walk_range {p0 : Pt} (lo : Int) (n : Nat) : WalkJ b C (Itr lo n) p0 ⟨rangeD lo n, fun _ => True⟩ where
  go := fun C' p i x _ I _ _ hx => by
    obtain ⟨h1, rfl⟩ := rangeD_get n lo i x hx
    exact ⟨h1, fun v H' hy => by
      obtain ⟨rfl, rfl⟩ := hy
      exact ⟨I, KE.refl p, .int _⟩⟩
  stop := fun C' p i _ I _ _ hi => by
    have h : (rangeD lo n).length ≤ i := hi
    rw [rangeD_len] at h
    exact h
theorem walk_down {p0 : Pt} (lo : Int) (n : Nat) : WalkJ b C (Itc lo (-1) n) p0 ⟨downD lo n, fun _ => True⟩ where
  go := fun C' p i x _ I _ _ hx => by
    obtain ⟨h1, rfl⟩ := downD_get n lo i x hx
    refine ⟨h1, fun v H' hy => ?_⟩
    obtain ⟨rfl, rfl⟩ := hy
    have e : lo + (i : Nat) * (-1) = lo - i := by omega
    exact ⟨I, KE.refl p, by show RepP C' p (.int (lo - i)) (.int (lo + (i : Nat) * (-1))); rw [e]; exact .int _⟩
  stop := fun C' p i _ I _ _ hi => by
    have h : (downD lo n).length ≤ i := hi
    rw [downD_len] at h
    exact h
theorem grd_seq {p p0 : Pt} {x : SV} {l : List D} (h : seqD p0.hp x = some l) (g : grd l x p.hp) : seqD p.hp x = some l := by
  cases x with
  | ol m => exact h
  | od m => cases h
  | d x =>
    cases x with
    | ref a =>
      have g' : p.hp a = some (.lst l) := g
      show (match p.hp a with | some (.lst l) => some l | _ => none) = some l
      rw [g']
    | tup m => exact h
    | lst m => exact h
    | non => cases h
    | bl b => cases h
    | int b => cases h
    | str b => cases h
    | fn b => cases h
/-- a list or a tuple -/
theorem walk_seq {p0 : Pt} {x : SV} {l : List D} {v : V} (I0 : I3 C p0) (hK : C.K = X.K) (h : seqD p0.hp x = some l) (r : RepB C p0 x v) (f : b = false → Fresh p0 x v) :
    ∃ a, v = .ref a ∧ (((∃ xs, SqL X.K p0.H a xs) ∧ WalkJ b C (Itl X.K a) p0 ⟨l, grd l x⟩) ∨ ((∃ xs, SqT X.K p0.H a xs) ∧ WalkJ b C (Itt X.K a) p0 ⟨l, grd l x⟩)) := by
  have goL : ∀ {a : Addr}, v = .ref a → (∀ C' p, CLe p0 C C' → I3 C' p → Rl b p0 p → grd l x p.hp → ∃ vs, SqL X.K p.H a vs ∧ RepsP C' p l vs) → WalkJ b C (Itl X.K a) p0 ⟨l, grd l x⟩ := fun {a} e hs =>
    ⟨fun C' p i y c I k g hy => by
      obtain ⟨vs, s, t⟩ := hs C' p c I k g
      obtain ⟨w, hw, q⟩ := t.get hy
      exact ⟨⟨vs, w, s, hw⟩, fun u H' ⟨e1, e2⟩ => by
        subst e1
        have e3 := e2 vs s
        rw [hw] at e3; cases e3
        exact ⟨I, KE.refl p, q⟩⟩,
    fun C' p i c I k g hi => by
      obtain ⟨vs, s, t⟩ := hs C' p c I k g
      exact ⟨vs, s, by rw [← t.length]; exact hi⟩⟩
  have goT : ∀ {a : Addr}, v = .ref a → (∀ C' p, CLe p0 C C' → I3 C' p → Rl b p0 p → grd l x p.hp → ∃ vs, SqT X.K p.H a vs ∧ RepsP C' p l vs) → WalkJ b C (Itt X.K a) p0 ⟨l, grd l x⟩ := fun {a} e hs =>
    ⟨fun C' p i y c I k g hy => by
      obtain ⟨vs, s, t⟩ := hs C' p c I k g
      obtain ⟨w, hw, q⟩ := t.get hy
      exact ⟨⟨vs, w, s, hw⟩, fun u H' ⟨e1, e2⟩ => by
        subst e1
        have e3 := e2 vs s
        rw [hw] at e3; cases e3
        exact ⟨I, KE.refl p, q⟩⟩,
    fun C' p i c I k g hi => by
      obtain ⟨vs, s, t⟩ := hs C' p c I k g
      exact ⟨vs, s, by rw [← t.length]; exact hi⟩⟩
  have kR : ∀ C' p, CLe p0 C C' → Rl b p0 p → RepB C' p x v := fun C' p c k => r.rl k c f
  have viaL : lstD p0.hp x = some l → (∀ p : Pt, grd l x p.hp → lstD p.hp x = some l) → ∃ a, v = .ref a ∧ (((∃ xs, SqL X.K p0.H a xs) ∧ WalkJ b C (Itl X.K a) p0 ⟨l, grd l x⟩) ∨ ((∃ xs, SqT X.K p0.H a xs) ∧ WalkJ b C (Itt X.K a) p0 ⟨l, grd l x⟩)) := fun h hp => by
    obtain ⟨a, vs, rfl, s, t⟩ := r.lst I0 h
    rw [hK] at s
    refine ⟨a, rfl, .inl ⟨⟨vs, s⟩, goL rfl fun C' p c I k g => ?_⟩⟩
    obtain ⟨a', vs', e, s', t'⟩ := (kR C' p c k).lst I (hp p g)
    cases e
    rw [c.K, hK] at s'
    exact ⟨vs', s', t'⟩
  cases x with
  | od m => cases h
  | ol m => exact viaL h fun _ _ => h
  | d x =>
    cases x with
    | tup m =>
      have h' : some m = some l := h
      cases h'
      obtain ⟨a, vs, rfl, n, t⟩ := r.tup
      refine ⟨a, rfl, .inr ⟨⟨vs, by rw [← hK]; exact n.sq⟩, goT rfl fun C' p c I k g => ?_⟩⟩
      obtain ⟨a', vs', e, n', t'⟩ := (kR C' p c k).tup
      cases e
      exact ⟨vs', by rw [← hK, ← c.K]; exact n'.sq, t'⟩
    | lst m => exact viaL h fun _ _ => h
    | ref a => exact viaL h fun p g => grd_seq (p0 := p0) h g
    | non => cases h
    | bl b => cases h
    | int b => cases h
    | str b => cases h
    | fn b => cases h
theorem walk_lst {p0 : Pt} {x : SV} {l : List D} {v : V} (I0 : I3 C p0) (hK : C.K = X.K) (h : lstD p0.hp x = some l) (r : RepB C p0 x v) (f : b = false → Fresh p0 x v) :
    ∃ a, v = .ref a ∧ (∃ xs, SqL X.K p0.H a xs) ∧ WalkJ b C (Itl X.K a) p0 ⟨l, grd l x⟩ := by
  have hp : ∀ p : Pt, grd l x p.hp → lstD p.hp x = some l := fun p g => by
    cases x with
    | ol m => exact h
    | od m => cases h
    | d x =>
      cases x with
      | ref a =>
        have g' : p.hp a = some (.lst l) := g
        show (match p.hp a with | some (.lst l) => some l | _ => none) = some l
        rw [g']
      | lst m => exact h
      | tup m => cases h
      | non => cases h
      | bl b => cases h
      | int b => cases h
      | str b => cases h
      | fn b => cases h
  have kR : ∀ C' p, CLe p0 C C' → Rl b p0 p → RepB C' p x v := fun C' p c k => r.rl k c f
  obtain ⟨a, vs, rfl, s, t⟩ := r.lst I0 h
  rw [hK] at s
  have hs : ∀ C' p, CLe p0 C C' → I3 C' p → Rl b p0 p → grd l x p.hp → ∃ vs, SqL X.K p.H a vs ∧ RepsP C' p l vs := fun C' p c I k g => by
    obtain ⟨a', vs', e, s', t'⟩ := (kR C' p c k).lst I (hp p g)
    cases e
    rw [c.K, hK] at s'
    exact ⟨vs', s', t'⟩
  exact ⟨a, rfl, ⟨vs, s⟩, fun C' p i y c I k g hy => by
      obtain ⟨vs, s, t⟩ := hs C' p c I k g
      obtain ⟨w, hw, q⟩ := t.get hy
      exact ⟨⟨vs, w, s, hw⟩, fun u H' ⟨e1, e2⟩ => by
        subst e1
        have e3 := e2 vs s
        rw [hw] at e3; cases e3
        exact ⟨I, KE.refl p, q⟩⟩,
    fun C' p i c I k g hi => by
      obtain ⟨vs, s, t⟩ := hs C' p c I k g
      exact ⟨vs, s, by rw [← t.length]; exact hi⟩⟩
theorem walk_tup {p0 : Pt} {m : List D} {v : V} (hK : C.K = X.K) (r : RepB C p0 (.d (.tup m)) v) (f : b = false → Fresh p0 (.d (.tup m)) v) :
    ∃ a, v = .ref a ∧ (∃ xs, SqT X.K p0.H a xs) ∧ WalkJ b C (Itt X.K a) p0 ⟨m, grd m (.d (.tup m))⟩ := by
  have kR : ∀ C' p, CLe p0 C C' → Rl b p0 p → RepB C' p (.d (.tup m)) v := fun C' p c k => r.rl k c f
  obtain ⟨a, vs, rfl, n, t⟩ := r.tup
  have hs : ∀ C' p, CLe p0 C C' → I3 C' p → Rl b p0 p → ∃ vs, SqT X.K p.H a vs ∧ RepsP C' p m vs := fun C' p c I k => by
    obtain ⟨a', vs', e, n', t'⟩ := (kR C' p c k).tup
    cases e
    exact ⟨vs', by rw [← hK, ← c.K]; exact n'.sq, t'⟩
  exact ⟨a, rfl, ⟨vs, by rw [← hK]; exact n.sq⟩, fun C' p i y c I k g hy => by
      obtain ⟨vs, s, t⟩ := hs C' p c I k
      obtain ⟨w, hw, q⟩ := t.get hy
      exact ⟨⟨vs, w, s, hw⟩, fun u H' ⟨e1, e2⟩ => by
        subst e1
        have e3 := e2 vs s
        rw [hw] at e3; cases e3
        exact ⟨I, KE.refl p, q⟩⟩,
    fun C' p i c I k g hi => by
      obtain ⟨vs, s, t⟩ := hs C' p c I k
      exact ⟨vs, s, by rw [← t.length]; exact hi⟩⟩
theorem walk_str {p0 : Pt} (z : Str) : WalkJ b C (Its z) p0 ⟨z.cps.toList.map fun c => .str ⟨#[c]⟩, fun _ => True⟩ where
  go := fun C' p i x _ I _ _ hx => by
    rw [List.getElem?_map] at hx
    obtain ⟨c, hc, rfl⟩ := Option.map_eq_some_iff.mp hx
    have hc' : z.cps[i]? = some c := by simpa using hc
    refine ⟨(Array.getElem?_eq_some_iff.mp hc').1, fun v H' hy => ?_⟩
    obtain ⟨rfl, c2, h2, rfl⟩ := hy
    rw [hc'] at h2; cases h2
    exact ⟨I, KE.refl p, .str _⟩
  stop := fun C' p i _ I _ _ hi => by
    have h : (z.cps.toList.map fun c => D.str ⟨#[c]⟩).length ≤ i := hi
    rw [List.length_map] at h
    show z.cps.size ≤ i
    simpa using h
/-- any list, tuple or text is walked -/
def iAny (K : PySem.W.Frag) (te : TE) : TI := fun σ H R => te σ H fun v H1 => (∃ a, v = .ref a ∧ (((∃ xs, SqL K H1 a xs) ∧ R (Itl K a) H1) ∨ ((∃ xs, SqT K H1 a xs) ∧ R (Itt K a) H1))) ∨ ∃ z, v = .str z ∧ R (Its z) H1
theorem pi_any {tg e : Expr} {te : TE} (he : PE X e te) : PI X tg e (iAny X.K te) := by
  refine ⟨fun pins s σ H R I h => thn (he.run pins s σ H _ I h) ?_⟩
  rintro v s1 ⟨y, H1, I1, r1, ⟨a, rfl, ⟨⟨xs, hq⟩, q⟩ | ⟨⟨xs, hq⟩, q⟩⟩ | ⟨z, rfl, q⟩⟩
  · cases r1
    obtain ⟨its, rv, w, hz⟩ := I1.list hq
    exact wpAny_pyIter_list w.isList (pi_one (tk := s1.toks) I1 _ (turn_list a _) ⟨_, Heap.get?_push_size _ rfl, rfl, rfl⟩ q)
  · cases r1
    obtain ⟨its, rv, w, hz⟩ := I1.tuple hq
    exact wpAny_pyIter_tuple (show s1.heap.IsTuple a its.toArray from w) (pi_one (tk := s1.toks) I1 _ (turn_tuple a _) ⟨_, Heap.get?_push_size _ rfl, rfl, rfl⟩ q)
  · obtain ⟨t, rfl⟩ := r1
    cases ha : z.cps.all (· < 128) with
    | false => exact wpAny_pyIter_wide ha (pi_one (tk := s1.toks) I1 _ (turn_str _ z t _ (.inr rfl)) ⟨_, Heap.get?_push_size _ rfl, rfl, rfl⟩ q)
    | true => exact wpAny_pyIter_ascii ha (pi_one (tk := s1.toks) I1 _ (turn_str _ z t _ (.inl rfl)) ⟨_, Heap.get?_push_size _ rfl, rfl, rfl⟩ q)
end
end Mi

namespace Mi
open PySem PySem.Spec PyProof.Rows L2

/-! ### a term beside the program's own syntax -/
/-- an own error class: its name, the fields that its __init__ stores (none: it isn't made), the names of the classes that it is one of -/
structure ClsI where
  n : Str
  fl : List Str
  sup : List Str
structure Ctx where
  N : List Str
  sc : Scope
  bi : List Str
  fs : List Str
  top : Bool
  df : List (Str × List D)
  ct : List ClsI
/-- plain values alike -/
def dEq : D → D → Bool
  | .non, .non => true
  | .int i, .int j => decide (i = j)
  | .bl i, .bl j => decide (i = j)
  | .str i, .str j => decide (i = j)
  | _, _ => false
def dEqs : List D → List D → Bool
  | [], [] => true
  | x :: r, y :: s => dEq x y && dEqs r s
  | _, _ => false
theorem dEq_eq : ∀ {x y : D}, dEq x y = true → x = y
  | .non, .non, _ => rfl
  | .int i, .int j, h => by rw [of_decide_eq_true h]
  | .bl i, .bl j, h => by rw [of_decide_eq_true h]
  | .str i, .str j, h => by rw [of_decide_eq_true h]
  | .non, .bl _, h | .non, .int _, h | .non, .str _, h | .non, .tup _, h | .non, .lst _, h | .non, .ref _, h | .non, .fn _, h => by cases h
  | .int _, .non, h | .int _, .bl _, h | .int _, .str _, h | .int _, .tup _, h | .int _, .lst _, h | .int _, .ref _, h | .int _, .fn _, h => by cases h
  | .bl _, .non, h | .bl _, .int _, h | .bl _, .str _, h | .bl _, .tup _, h | .bl _, .lst _, h | .bl _, .ref _, h | .bl _, .fn _, h => by cases h
  | .str _, .non, h | .str _, .int _, h | .str _, .bl _, h | .str _, .tup _, h | .str _, .lst _, h | .str _, .ref _, h | .str _, .fn _, h => by cases h
  | .tup _, _, h => by cases h
  | .lst _, _, h => by cases h
  | .ref _, _, h => by cases h
  | .fn _, _, h => by cases h
theorem dEqs_eq : ∀ {x y : List D}, dEqs x y = true → x = y
  | [], [], _ => rfl
  | x :: r, y :: s, h => by
    obtain ⟨h1, h2⟩ := Bool.and_eq_true_iff.mp (show (dEq x y && dEqs r s) = true from h)
    rw [dEq_eq h1, dEqs_eq h2]
  | [], _ :: _, h => by cases h
  | _ :: _, [], h => by cases h
def hasDf (c : Ctx) (f : Str) (dv : List D) : Bool := c.df.any fun p => decide (p.1 = f) && dEqs p.2 dv
theorem hasDf_mem {c : Ctx} {f : Str} {dv : List D} (h : hasDf c f dv = true) : (f, dv) ∈ c.df := by
  obtain ⟨p, hp, h2⟩ := List.any_eq_true.mp h
  obtain ⟨h3, h4⟩ := Bool.and_eq_true_iff.mp h2
  have e1 := of_decide_eq_true h3
  have e2 := dEqs_eq h4
  obtain ⟨a, b⟩ := p
  subst e1 e2
  exact hp
/-- a written table of defs, as it stands among the defaults -/
def tabOf : List D → Option (List (Str × Str))
  | [] => some []
  | .tup [.str k, .fn f] :: r => (tabOf r).map ((k, f) :: ·)
  | _ => none
def hasTb (c : Ctx) (t : Str) (fs : List (Str × Str)) : Bool := c.df.any fun p => decide (p.1 = t) && !p.2.isEmpty && decide (tabOf p.2 = some fs)
theorem hasTb_mem {c : Ctx} {t : Str} {fs : List (Str × Str)} (h : hasTb c t fs = true) : ∃ dv, (t, dv) ∈ c.df ∧ dv ≠ [] ∧ tabOf dv = some fs := by
  obtain ⟨p, hp, h2⟩ := List.any_eq_true.mp h
  obtain ⟨h3, h4⟩ := Bool.and_eq_true_iff.mp h2
  obtain ⟨h3, h5⟩ := Bool.and_eq_true_iff.mp h3
  obtain ⟨a, b⟩ := p
  have e1 : a = t := of_decide_eq_true h3
  subst e1
  refine ⟨b, hp, fun z => ?_, of_decide_eq_true h4⟩
  have z : b = [] := z
  subst z
  cases h5
def hasCl (c : Ctx) (x : Str) (fl : List Str) : Bool := c.ct.any fun ci => decide (ci.n = x) && (decide (ci.fl = fl) && decide (fl ≠ []))
def isCl (c : Ctx) (x : Str) : Bool := c.ct.any fun ci => decide (ci.n = x)
/-- of the class y: whether its things are things of x -/
def subB (ct : List ClsI) (y x : Str) : Option Bool := (ct.find? fun ci => decide (ci.n = y)).map fun ci => decide (x ∈ ci.sup)
def glB (c : Ctx) (x : Str) : Bool := decide (c.sc.names.lookup x = some .globalImplicit) && !(x == ("__debug__" : Str)) && !(x == ("__name__" : Str))
def visB (c : Ctx) (x : Str) : Bool := (match c.sc.names.lookup x with
  | some .local => true | some .cell => true | some .free => true | _ => false) && !(x == ("__debug__" : Str)) && !(x == ("__classdict__" : Str))
def locB (c : Ctx) (x : Str) : Bool := decide (c.sc.names.lookup x = some .local)
def biB (c : Ctx) (x : Str) : Bool := glB c x && decide (x ∈ c.bi)
def plainE : Expr → Bool
  | .Starred .. => false
  | .Set .. => false
  | .ListComp .. => true
  | _ => true
def notSl : Expr → Bool
  | .Slice .. => false
  | .Starred .. => false
  | .Tuple .. => false
  | _ => true
def bopB (o : BOp) (p : Operator) : Bool := match o, p with
  | .add, .Add => true | .sub, .Sub => true | .mul, .Mult => true | .fdiv, .FloorDiv => true | .mod, .Mod => true | .pow, .Pow => true | .rep, .Mult => true | _, _ => false
def copB (o : COp) (p : CmpOp) : Bool := match o, p with
  | .eq, .Eq => true | .ne, .NotEq => true | .lt, .Lt => true | .le, .LtE => true | .gt, .Gt => true | .ge, .GtE => true | .isn, .Is => true | .isnotn, .IsNot => true | .inn, .In => true | .notin, .NotIn => true | _, _ => false
def nonB : Expr → Bool
  | .Constant .none _ _ => true
  | _ => false
def plT : Expr → Bool
  | .List .. => true
  | .ListComp .. => true
  | .BinOp .. => true
  | .Call .. => true
  | .Subscript .. => true
  | _ => false
def nonM : Ex → Bool
  | .non => true
  | _ => false
/-- a truth, written -/
def blB (m : Ex) (e : Expr) : Bool := match m with
  | .bl i => (match e with
    | .Constant (.bool j) _ _ => decide (i = j)
    | _ => false)
  | _ => false
/-- is, is not stand beside None alone -/
def isB (o : COp) : Bool := match o with
  | .isn => false
  | .isnotn => false
  | _ => true
def relC (c : Ctx) (scope : Scope) : Ctx := { c with sc := relS scope c.sc, top := false }
def tgB (c : Ctx) (i : Nat) : Expr → Bool
  | .Name x _ => decide (c.N[i]? = some x) && (match c.sc.names.lookup x with
    | some .local => true | some .cell => c.top | _ => false)
  | _ => false
def tgsB (c : Ctx) : List Nat → List Expr → Bool
  | [], [] => true
  | i :: is, e :: es => tgB c i e && tgsB c is es
  | _, _ => false
def tgtB (c : Ctx) (tg : List Nat) (e : Expr) : Bool := match tg with
  | [i] => tgB c i e
  | tg => match e with
    | .Tuple es _ _ => tgsB c tg es
    | _ => false
def isBop : Expr → Bool
  | .BoolOp .. => true
  | _ => false
/-- what one expression's term promises -/
def recvB : Expr → Bool
  | .Name .. => true
  | .Subscript .. => true
  | .Attribute .. => true
  | .Constant .. => true
  | .Dict .. => true
  | _ => false
/-- may stand ahead of what is walked -/
def tgI : It → Expr → Bool
  | .en _, .Tuple .. => true
  | .zp _ _, .Tuple .. => true
  | .zp _ _, _ => false
  | .en _, _ => false
  | _, _ => true
/-- the keys of a display, written -/
def keysB : List Str → List (Option Expr) → Bool
  | [], [] => true
  | k :: ks, some (.Constant (.str j) _ _) :: es => decide (k = j) && keysB ks es
  | _, _ => false
def o1n : O1 → Str
  | .pop => "pop"
def o2n : O2 → Str
  | .dx => "" | .get => "get" | .lpop => "pop"
def o3n : O3 → Str
  | .get => "get" | .pop => "pop" | .setd => "setdefault"
mutual
def chkE (c : Ctx) : Ex → Expr → Bool
  | .v i, e => match e with
    | .Name x _ => decide (c.N[i]? = some x) && visB c x
    | _ => false
  | .int i, e => match e with
    | .Constant (.int j) _ _ => decide (i = j)
    | _ => false
  | .bl i, e => match e with
    | .Constant (.bool j) _ _ => decide (i = j)
    | _ => false
  | .non, e => match e with
    | .Constant .none _ _ => true
    | _ => false
  | .str i, e => match e with
    | .Constant (.str j) _ _ => decide (i = j)
    | _ => false
  | .g x, e => match e with
    | .Name y _ => decide (x = y) && glB c y
    | _ => false
  | .tup l, e => match e with
    | .Tuple es _ _ => decide (l.length ≤ 1000) && chkL c l es
    | _ => false
  | .lst l, e => match e with
    | .List es _ => decide (l.length ≤ 1000) && chkL c l es
    | _ => false
  | .bin o a b, e => match e with
    | .BinOp x p y _ => bopB o p && chkE c a x && chkE c b y
    | _ => false
  | .neg a, e => match e with
    | .UnaryOp .USub x _ => chkE c a x
    | _ => false
  | .no a, e => match e with
    | .UnaryOp .Not x _ => chkE c a x
    | _ => false
  | .an a b, e => match e with
    | .BoolOp .And (x :: y :: r) p => chkE c a x && (match r with
      | [] => chkE c b y
      | _ :: _ => chkE c b (.BoolOp .And (y :: r) p))
    | _ => false
  | .oo a b, e => match e with
    | .BoolOp .Or (x :: y :: r) p => chkE c a x && (match r with
      | [] => chkE c b y
      | _ :: _ => chkE c b (.BoolOp .Or (y :: r) p))
    | _ => false
  | .ite t a b, e => match e with
    | .IfExp x y z _ => chkE c t x && chkE c a y && chkE c b z
    | _ => false
  | .cmp o a b, e => match e with
    | .Compare x [p] [y] _ => copB o p && plainE y && chkE c a x && (match isB o with
      | true => chkE c b y
      | false => (nonM b && nonB y) || blB b y)
    | _ => false
  | .cmp2 o q a b d, e => match e with
    | .Compare x [p, p'] [y, z] _ => copB o p && copB q p' && isB o && isB q && plainE y && plainE z && chkE c a x && chkE c b y && chkE c d z
    | _ => false
  | .ix a i, e => match e with
    | .Subscript x y _ => notSl y && chkE c a x && chkE c i y
    | _ => false
  | .sl a lo hi, e => match e with
    | .Subscript x (.Slice l u none _) _ => chkE c a x && (match l with
      | none => nonM lo
      | some l => !nonM lo && chkE c lo l) && (match u with
      | none => nonM hi
      | some u => !nonM hi && chkE c hi u)
    | _ => false
  | .back a, e => match e with
    | .Subscript x (.Slice none none (some (.UnaryOp .USub (.Constant (.int j) _ _) _)) _) _ => decide (j = 1) && chkE c a x
    | _ => false
  | .call f l, e => match e with
    | .Call (.Name x _) es [] _ => decide (f = x) && glB c x && decide (x ∈ c.fs) && chkL c l es
    | _ => false
  | .calld f l dv, e => match e with
    | .Call (.Name x _) es [] _ => decide (f = x) && glB c x && decide (x ∈ c.fs) && hasDf c x dv && chkL c l es
    | _ => false
  | .b1 f a, e => match e with
    | .Call (.Name x _) [e] [] _ => decide (b1n f = x) && biB c x && plainE e && chkE c a e
    | _ => false
  | .b2 f a b, e => match e with
    | .Call (.Name x _) [e, e'] [] _ => decide (b2n f = x) && biB c x && plainE e && plainE e' && chkE c a e && chkE c b e'
    | _ => false
  | .isi a t, e => match e with
    | .Call (.Name x _) [e, .Name y _] [] _ => decide (x = ("isinstance" : Str)) && biB c x && decide (tyS t = y) && biB c y && plainE e && chkE c a e
    | _ => false
  | .m1 m o a, e => match e with
    | .Call (.Attribute x name apos) [v] [] cpos => decide (name = m1n m) && (apos.endLine == cpos.line) && plainE v && recvB x && chkE c o x && chkE c a v
    | _ => false
  | .m0 m o, e => match e with
    | .Call (.Attribute x name apos) [] [] cpos => decide (name = m0n m) && (apos.endLine == cpos.line) && recvB x && chkE c o x
    | _ => false
  | .comp m tg it t own, e => match e with
    | .ListComp elt [⟨tge, iter, ifs, k⟩] scope _ => decide (k = 0) && blkC c.N c.sc scope (own.map fun i => (c.N.getD i (default : Str), i)) && tgtB (relC c scope) tg tge && decide (∀ i ∈ tg, i ∈ own) && (chkI c it iter && tgI it tge) && (match ifs with
      | [] => (match t with
        | .bl true => true
        | _ => false)
      | [x] => chkE (relC c scope) t x
      | _ => false) && chkE (relC c scope) m elt && plainE iter
    | _ => false
  | .rf a, e => plT e && chkE c a e
  | .o1 f a, e => match e with
    | .Call (.Attribute x name apos) [] [] cpos => decide (name = o1n f) && (apos.endLine == cpos.line) && recvB x && chkE c a x
    | _ => false
  | .o2 f a b, e => match e with
    | .Subscript x y _ => decide (f = .dx) && notSl y && chkE c a x && chkE c b y
    | .Call (.Attribute x name apos) [v] [] cpos => decide (f ≠ .dx) && decide (name = o2n f) && (apos.endLine == cpos.line) && plainE v && recvB x && chkE c a x && chkE c b v
    | _ => false
  | .o3 f a b d, e => match e with
    | .Call (.Attribute x name apos) [v, w] [] cpos => decide (name = o3n f) && (apos.endLine == cpos.line) && plainE v && plainE w && recvB x && chkE c a x && chkE c b v && chkE c d w
    | _ => false
  | .dct ks vs, e => match e with
    | .Dict keys values _ => keysB ks keys && decide (ks ≠ []) && decide (ks.length ≤ 15) && decide ks.Nodup && decide (ks.length = values.length) && chkL c vs values
    | _ => false
  | .tin ng t fs a, e => match e with
    | .Compare x [p] [.Name y _] _ => copB (if ng then .notin else .inn) p && decide (t = y) && glB c y && hasTb c t fs && chkE c a x
    | _ => false
  | .tix t fs a, e => match e with
    | .Subscript (.Name y _) x _ => decide (t = y) && glB c y && hasTb c t fs && notSl x && chkE c a x
    | _ => false
  | .callv i fl l, e => match e with
    | .Call (.Name x _) (v :: es) [] _ => decide (c.N[i]? = some x) && visB c x && decide (∀ f ∈ fl, f ∈ c.fs) && chkL c l (v :: es)
    | _ => false
  | .dnew _, e => match e with
    | .Dict [] [] _ => true
    | _ => false
  | .vl a, e => !isBop e && chkE c a e
def chkL (c : Ctx) : List Ex → List Expr → Bool
  | [], es => match es with
    | [] => true
    | _ => false
  | a :: r, es => match es with
    | e :: es => plainE e && chkE c a e && chkL c r es
    | _ => false
def chkI (c : Ctx) : It → Expr → Bool
  | .e a, e => plainE e && chkE c a e
  | .rg1 a, e => match e with
    | .Call (.Name x _) [e] [] _ => decide (x = ("range" : Str)) && biB c x && plainE e && chkE c a e
    | _ => false
  | .rg2 a b, e => match e with
    | .Call (.Name x _) [e, e'] [] _ => decide (x = ("range" : Str)) && biB c x && plainE e && plainE e' && chkE c a e && chkE c b e'
    | _ => false
  | .rg3 a b, e => match e with
    | .Call (.Name x _) [e, e', .UnaryOp .USub (.Constant (.int j) _ _) _] [] _ => decide (x = ("range" : Str)) && decide (j = 1) && biB c x && plainE e && plainE e' && chkE c a e && chkE c b e'
    | _ => false
  | .en a, e => match e with
    | .Call (.Name x _) [e] [] _ => decide (x = ("enumerate" : Str)) && biB c x && plainE e && chkE c a e
    | _ => false
  | .zp a b, e => match e with
    | .Call (.Name x _) [e, e'] [] _ => decide (x = ("zip" : Str)) && biB c x && plainE e && plainE e' && chkE c a e && chkE c b e'
    | _ => false
end
end Mi

namespace Mi
open PySem PySem.Spec PyProof.Rows L2

/-! ### statements beside the program's own syntax -/
def notComp : Expr → Bool
  | .ListComp .. => false
  | .SetComp .. => false
  | .DictComp .. => false
  | _ => true
def notTup : Expr → Bool
  | .Tuple .. => false
  | .List .. => false
  | _ => true
def isTupE : Expr → Bool
  | .Tuple .. => true
  | _ => false
/-- an assignment whose stores stand in order -/
def tupB (tg v : Expr) : Bool := match tg with
  | .Tuple ts _ _ => (match v with
    | .Tuple vs _ _ => vs.all (foldedForSure 8) || !(ts.length == 2 || ts.length == 3)
    | _ => false)
  | _ => false
/-- no local name -/
def nonLoc (c : Ctx) : Expr → Bool
  | .Name x _ => !locB c x
  | _ => true
/-- a target that is no local name: the stores stand in order -/
def celB (c : Ctx) (tg : Expr) : Bool := match tg with
  | .Tuple ts _ _ => ts.any (nonLoc c)
  | _ => false
def asgB (c : Ctx) (tg v : Expr) : Bool := notComp v && (!isTupE v || notTup tg || tupB tg v || celB c tg)
def isCall : Expr → Bool
  | .Call .. => true
  | _ => false
/-- nothing is called -/
def simB : Ex → Bool
  | .v _ => true
  | .int _ => true
  | .bin _ a b => simB a && simB b
  | _ => false
mutual
def chkG (c : Ctx) : Tg → Expr → Bool
  | .n i, e => tgB c i e
  | .t l, e => match e with
    | .Tuple es _ _ => chkGs c l es
    | _ => false
  | .s o i, e => match e with
    | .Subscript x y _ => notSl y && chkE c o x && chkE c i y
    | _ => false
  | .ds o i, e => match e with
    | .Subscript x y _ => notSl y && chkE c o x && chkE c i y
    | _ => false
def chkGs (c : Ctx) : List Tg → List Expr → Bool
  | [], es => match es with
    | [] => true
    | _ => false
  | t :: l, es => match es with
    | e :: es => chkG c t e && chkGs c l es
    | _ => false
end
def lcB (c : Ctx) (i : Nat) (tg v : Expr) : Bool := match tg with
  | .Name y py => (match v with
    | .ListComp _ _ scope vp => decide (c.sc.kind = .function) && decide (c.N[i]? = some y) && locB c y && (py.line == vp.line) && !(scope.names.any fun (n, k) => n == y && (k == .local || k == .cell))
    | _ => false)
  | _ => false
def isComp : Ex → Bool
  | .comp .. => true
  | _ => false
def locsB (c : Ctx) (line : Nat) : List Nat → List Expr → Bool
  | [], es => match es with
    | [] => true
    | _ => false
  | i :: is, es => match es with
    | .Name x p :: es => decide (c.N[i]? = some x) && locB c x && (p.line == line) && locsB c line is es
    | _ => false
def lineOf : List Expr → Nat
  | e :: _ => e.pos.line
  | [] => 0
/-! ### except suites -/
def tyNs : List Str := ["ValueError", "LookupError", "Exception"]
/-- a class by name: an own one, or a built-in one -/
def clB (c : Ctx) (x : Str) : Bool := (glB c x && isCl c x) || (biB c x && decide (x ∈ tyNs))
def namesB (c : Ctx) : List Str → List Expr → Bool
  | [], es => match es with
    | [] => true
    | _ => false
  | n :: ns, es => match es with
    | .Name x _ :: es => decide (n = x) && clB c x && namesB c ns es
    | _ => false
/-- the error's own name -/
def selfB (c : Ctx) (slot : Option Nat) (i : Nat) : Expr → Bool
  | .Name x _ => decide (slot = some i) && decide (c.N[i]? = some x) && locB c x && visB c x
  | _ => false
def isxB (c : Ctx) (ns yes no : List Str) : Bool := yes.all (fun y => ns.any fun x => decide (subB c.ct y x = some true)) && no.all (fun y => ns.all fun x => decide (subB c.ct y x = some false))
mutual
def chkX (c : Ctx) (slot : Option Nat) : Xp → Expr → Bool
  | .v i, e => decide (slot ≠ some i) && chkE c (.v i) e
  | .int i, e => chkE c (.int i) e
  | .bl i, e => chkE c (.bl i) e
  | .non, e => chkE c .non e
  | .str i, e => chkE c (.str i) e
  | .tup l, e => match e with
    | .Tuple es _ _ => decide (l.length ≤ 1000) && chkXs c slot l es
    | _ => false
  | .fld i f, e => match e with
    | .Attribute x f' _ => decide (f = f') && (selfB c slot i x && c.ct.any (fun cj => decide (f ∈ cj.fl)))
    | _ => false
  | .isx i ns yes no, e => match e with
    | .Call (.Name g _) [x, t] [] _ => decide (g = ("isinstance" : Str)) && biB c g && selfB c slot i x && isxB c ns yes no && (match t with
      | .Name _ _ => namesB c ns [t]
      | .Tuple ts _ _ => decide (ns.length ≤ 1000) && namesB c ns ts
      | _ => false)
    | _ => false
  | .no a, e => match e with
    | .UnaryOp .Not x _ => chkX c slot a x
    | _ => false
  | .an a b, e => match e with
    | .BoolOp .And (x :: y :: r) p => chkX c slot a x && (match r with
      | [] => chkX c slot b y
      | _ :: _ => chkX c slot b (.BoolOp .And (y :: r) p))
    | _ => false
  | .oo a b, e => match e with
    | .BoolOp .Or (x :: y :: r) p => chkX c slot a x && (match r with
      | [] => chkX c slot b y
      | _ :: _ => chkX c slot b (.BoolOp .Or (y :: r) p))
    | _ => false
def chkXs (c : Ctx) (slot : Option Nat) : List Xp → List Expr → Bool
  | [], es => match es with
    | [] => true
    | _ => false
  | a :: r, es => match es with
    | e :: es => plainE e && chkX c slot a e && chkXs c slot r es
    | _ => false
end
mutual
def chkU (c : Ctx) (slot : Option Nat) : Su → Stmt → Bool
  | .ret e, st => match st with
    | .Return (some v) _ => chkX c slot e v
    | _ => false
  | .asg i e, st => match st with
    | .Assign [.Name x py] v pos => decide (slot ≠ some i) && asgB c (.Name x py) v && tgB c i (.Name x py) && chkX c slot e v
    | _ => false
  | .ite t a b, st => match st with
    | .If x y z _ => chkX c slot t x && chkUs c slot a y && chkUs c slot b z
    | _ => false
  | .pass, st => match st with
    | .Pass _ => true
    | _ => false
  | .cont, st => match st with
    | .Continue _ => true
    | _ => false
  | .brk, st => match st with
    | .Break _ => true
    | _ => false
def chkUs (c : Ctx) (slot : Option Nat) : List Su → List Stmt → Bool
  | [], sts => match sts with
    | [] => true
    | _ => false
  | s :: r, sts => match sts with
    | st :: sts => chkU c slot s st && chkUs c slot r sts
    | [] => false
end
def nameB (c : Ctx) : Option Str → Option Nat → Bool
  | none, none => true
  | some n, some i => decide (c.N[i]? = some n) && locB c n
  | _, _ => false
def chkH (c : Ctx) (h : Hd) : ExceptHandler → Bool
  | .ExceptHandler (some (.Name x _)) nm (b₀ :: suite) _ => decide (h.n = x) && glB c x && isCl c x && nameB c nm h.slot && h.yes.all (fun y => decide (subB c.ct y x = some true)) && h.no.all (fun y => decide (subB c.ct y x = some false)) && chkUs c h.slot h.su (b₀ :: suite)
  | _ => false
def chkHs (c : Ctx) : List Hd → List ExceptHandler → Bool
  | [], es => match es with
    | [] => true
    | _ => false
  | h :: r, es => match es with
    | e :: es => chkH c h e && chkHs c r es
    | _ => false
mutual
def chkS (c : Ctx) : Sm → Stmt → Bool
  | .asg t e, st => match st with
    | .Assign [tg] v _ => chkE c e v && (match t with
      | .n i => (asgB c tg v && tgB c i tg) || (isComp e && lcB c i tg v)
      | t => asgB c tg v && chkG c t tg)
    | _ => false
  | .par is es, st => match st with
    | .Assign [.Tuple ts _ _] (.Tuple vs _ _) _ => (is.length == 2 || is.length == 3) && decide (c.sc.kind = .function) && decide is.Nodup && (vs.length == is.length) && locsB c (lineOf ts) is ts && chkL c es vs && !(vs.all (foldedForSure 8)) && !(vs.all (constantsAlone 8))
    | _ => false
  | .aug i o e, st => match st with
    | .AugAssign x p v _ => bopB o p && (decide (o ≠ .pow) && decide (o ≠ .rep)) && tgB c i x && chkE c e v
    | _ => false
  | .augS o i b e, st => match st with
    | .AugAssign (.Subscript x y _) p v _ => bopB b p && (decide (b ≠ .pow) && decide (b ≠ .rep)) && simB i && notSl y && chkE c o x && chkE c i y && chkE c e v
    | _ => false
  | .expr e, st => match st with
    | .Expr v _ => isCall v && chkE c e v
    | _ => false
  | .mu m o a, st => match st with
    | .Expr (.Call (.Attribute x name apos) [v] [] cpos) _ => (match m with
      | .append => decide (name = ("append" : Str))
      | .extend => decide (name = ("extend" : Str))) && (apos.endLine == cpos.line) && plainE v && recvB x && chkE c o x && chkE c a v
    | _ => false
  | .ite t a b, st => match st with
    | .If x y z _ => chkE c t x && chkSs c a y && chkSs c b z
    | _ => false
  | .whl t b, st => match st with
    | .While x y [] _ => chkE c t x && chkSs c b y
    | _ => false
  | .fr t it b, st => match st with
    | .For tg iter y [] _ => chkG c t tg && (chkI c it iter && tgI it tg) && plainE iter && chkSs c b y
    | _ => false
  | .ret e, st => match st with
    | .Return (some v) _ => chkE c e v
    | _ => false
  | .retN, st => match st with
    | .Return none _ => true
    | _ => false
  | .retV i, st => match st with
    | .Return (some v) _ => chkE c (.v i) v
    | _ => false
  | .brk, st => match st with
    | .Break _ => true
    | _ => false
  | .cont, st => match st with
    | .Continue _ => true
    | _ => false
  | .pass, st => match st with
    | .Pass _ => true
    | _ => false
  | .rais n fl l, st => match st with
    | .Raise (some (.Call (.Name x _) es [] _)) none _ => decide (n = x) && glB c x && hasCl c x fl && c.top && !es.isEmpty && chkL c l es
    | _ => false
  | .tr b hs els, st => match st with
    | .Try body hds orelse [] _ => c.top && !hds.isEmpty && chkSs c b body && chkHs c hs hds && chkSs c els orelse
    | _ => false
  | .fz _, _ => false
def chkSs (c : Ctx) : List Sm → List Stmt → Bool
  | [], sts => match sts with
    | [] => true
    | _ => false
  | s :: r, sts => match isFz s with
    | true => chkSs c r sts
    | false => match sts with
      | st :: sts => chkS c s st && chkSs c r sts
      | [] => false
end
end Mi

namespace Mi
open PySem PySem.Spec PyProof.Rows L2

/-! ### what a body stands in -/
/-- an exception in the air: its class by name, its own fields -/
def ExR (C : BC) (p : Pt) (c : Str) (fs : List (Str × D)) (cls : Value) (d : Option Addr) : Prop :=
  ∃ a dx vs, cls = .ref a ∧ C.mg c = some (.ref a) ∧ d = some dx ∧ p.H dx = some (.xd vs) ∧ p.hp dx = none ∧ ¬ p.own dx ∧ ¬ C.G dx ∧ PySem.Paired (fun (x : Str × D) (y : Str × V) => x.1 = y.1 ∧ RepP C p x.2 y.2) fs vs
def EL (C : BC) (EX : Ev → EK) (σ : L2.St) : XK := fun cls d H => ∃ ev hp c fs, I3 C ⟨ev, σ, hp, H⟩ ∧ ExR C ⟨ev, σ, hp, H⟩ c fs cls d ∧ EX ev c fs hp
def exF (C : BC) (p0 : Pt) (E : XK) : EK := fun c fs hp' => ∀ cls d H', I3 C (p0.wh hp' H') → KE p0 (p0.wh hp' H') → ExR C (p0.wh hp' H') c fs cls d → E cls d H'
/-- a def's promise, by what its term does -/
def liftF (K : PySem.W.Frag) (mg : Str → Option Value) (pw : Program × World) (cl : CallT) (f : Str) : Sp := fun vs H Q E => ∃ (ds : List D) (hp : HpD) (G : Addr → Prop),
  I3 ⟨K, mg, pw, G, H, hp⟩ ⟨[], [], hp, H⟩ ∧ RepsP ⟨K, mg, pw, G, H, hp⟩ ⟨[], [], hp, H⟩ ds vs ∧
    cl f ds hp (cont ⟨K, mg, pw, G, H, hp⟩ ⟨[], [], hp, H⟩ Q) (exF ⟨K, mg, pw, G, H, hp⟩ ⟨[], [], hp, H⟩ E)
structure FnX (X : Cx) (C : BC) (cl : CallT) (df : List (Str × List D)) (f : Str) : Prop where
  ex : ∃ (k : Nat) (a : Addr) (fd : FuncData) (ps : List Str), FnG X.prog X.w X.K X.mg X.base (L2.CX X.prog X.w) k a fd ps (liftF C.K C.mg C.pw cl f) ∧ Room k X.A ∧ X.mg f = some (.ref a) ∧ PySem.W.keepIn X.K (.ref a) = true ∧
    Binds X.K fd ps [] ∧ ∀ p ∈ df, p.1 = f → ∃ (dv : List V) (ds : List Value), Vals dv ds ∧ Binds X.K fd ps ds ∧ ∀ H F, Reps C.K C.mg H F p.2 dv
/-- what the written part says of an own error class -/
structure ClK (P : Program) (w : World) (K : PySem.W.Frag) (mg : Str → Option Value) (base : Heap) (Ca : Addr) (ci : ClsI) : Prop where
  here : mg ci.n = some (.ref Ca)
  ex : ExcC K Ca
  xf : XfC K Ca
  tyC : PySem.W.typeIn K (.ref Ca) = some (.type "type")
  make : ci.fl ≠ [] → ∃ (fm : PySem.MiX.Fam) (fI : Addr) (fd : FuncData), OexF fm K Ca ∧ PySem.W.findIn K (.ref Ca) "__init__" = some (some (.ref fI)) ∧ PySem.W.typeIn K (.ref fI) = some (.type "function") ∧
    FnOk P w K mg base (L2.CX P w) 1 fI fd ("self" :: ci.fl) (spI fm K Ca ci.fl) ∧ Binds K fd ("self" :: ci.fl) [] ∧ ci.fl.length ≤ 800
structure ClOk (P : Program) (w : World) (K : PySem.W.Frag) (mg : Str → Option Value) (base : Heap) (ct : List ClsI) : Prop where
  cl : ∀ ci ∈ ct, ∃ Ca, ClK P w K mg base Ca ci
  sub : ∀ ci ∈ ct, ∀ cj ∈ ct, ∀ Ci Cj, mg ci.n = some (.ref Ci) → mg cj.n = some (.ref Cj) → PySem.W.subIn K (.ref Ci) (.ref Cj) = some (decide (cj.n ∈ ci.sup)) ∧ PySem.W.kitOne K (.ref Ci) (.ref Cj) = some (decide (cj.n ∈ ci.sup))
  nof : ∀ ci ∈ ct, ∀ cj ∈ ct, ∀ f ∈ cj.fl, ∀ Ci, mg ci.n = some (.ref Ci) → PySem.W.findIn K (.ref Ci) f = some none
  ty : ∀ ci ∈ ct, ∀ Ci, mg ci.n = some (.ref Ci) → ∀ x ∈ tyNs, ∃ b : String, bootBuiltins x = some (.type b) ∧ PySem.W.kitOne K (.ref Ci) (.type b) = some (decide (x ∈ ci.sup))
/-- a written table of defs -/
structure TabX (w : World) (K : PySem.W.Frag) (mg : Str → Option Value) (t : Str) (fs : List (Str × Str)) : Prop where
  ex : ∃ (d : Addr) (es : Array DictEntry) (n : Nat), mg t = some (.ref d) ∧ L2.KDict K w d es n ∧ (∀ s f, fs.lookup s = some f → ∃ a, PySem.W.nsIn K d s = some (some (.ref a)) ∧ mg f = some (.ref a)) ∧ ∀ s, fs.lookup s = none → PySem.W.nsIn K d s = some none
structure XOk (c : Ctx) (X : Cx) (C : BC) (cl : CallT) (co : ConT) (EX : Ev → EK) : Prop where
  N : X.N = c.N
  nd : X.N.Nodup
  sc : X.env.scope = c.sc
  calm : X.calm = true
  K : C.K = X.K
  mg : C.mg = X.mg
  pw : C.pw = (X.prog, X.w)
  hu : X.A.units + 66 < cLine
  gd : X.A.guards = some []
  bi : ∀ x ∈ c.bi, X.mg x = none
  cm : CallMono cl
  fn : ∀ f ∈ c.fs, FnX X C cl c.df f
  con : ∀ x d, co x = some d → ∃ u v, X.mg x = some u ∧ RelV v u ∧ ∀ H F, Rep C.K C.mg H F d v
  tb : ∀ p ∈ c.df, p.2 ≠ [] → ∀ fs, tabOf p.2 = some fs → TabX X.w X.K X.mg p.1 fs
  pass : PassesOwn (model X.prog X.w) X.A X.env X.xe
  fnc : c.top = true → ∀ x, X.fn x = true
  tk : Takes X (fun cls d σ H => EL C EX σ cls d H)
  cls : ClOk X.prog X.w X.K X.mg X.base c.ct
  rm : Room 2 X.A
  tops : c.top = true → X.stack = X.env :: X.outer ∧ X.env.frame = some X.env.locals
section
variable {c : Ctx} {X : Cx} {C : BC} {cl : CallT} {co : ConT} {EX : Ev → EK}
theorem XOk.gl (hX : XOk c X C cl co EX) {x : Str} (h : glB c x = true) : Gl X x ∧ (x == ("__debug__" : Str)) = false ∧ x ≠ "__name__" := by
  unfold glB at h
  simp only [Bool.and_eq_true, decide_eq_true_eq, Bool.not_eq_true'] at h
  refine ⟨?_, h.1.2, fun e => ?_⟩
  · show X.env.scope.names.lookup x = _
    rw [hX.sc]; exact h.1.1
  · have q := h.2
    rw [e] at q
    simp at q
theorem XOk.blt (hX : XOk c X C cl co EX) {x : Str} (h : biB c x = true) : Gl X x ∧ X.mg x = none ∧ (x == ("__debug__" : Str)) = false ∧ x ≠ "__name__" := by
  unfold biB at h
  simp only [Bool.and_eq_true, decide_eq_true_eq] at h
  obtain ⟨h1, h2, h3⟩ := hX.gl h.1
  exact ⟨h1, hX.bi x h.2, h2, h3⟩
theorem XOk.vis (hX : XOk c X C cl co EX) {x : Str} (h : visB c x = true) : Vis X.env.scope x ∧ (x == ("__debug__" : Str)) = false ∧ (x == ("__classdict__" : Str)) = false := by
  unfold visB at h
  simp only [Bool.and_eq_true, Bool.not_eq_true'] at h
  refine ⟨?_, h.1.2, h.2⟩
  rw [hX.sc]
  have h1 := h.1.1
  split at h1
  · exact .inl ‹_›
  · exact .inr (.inl ‹_›)
  · exact .inr (.inr ‹_›)
  · cases h1

/-! ### the wishes of a term -/
abbrev wE (cl : CallT) (co : ConT) (EX : Ev → EK) (m : Ex) : WE := fun ev hp Q => wr cl co m ev hp Q (EX ev)
abbrev wB (cl : CallT) (co : ConT) (EX : Ev → EK) (m : Ex) : WE := fun ev hp Q => borK m ev hp (fun Q => wr cl co m ev hp Q (EX ev)) Q
theorem wE_mono (hc : CallMono cl) (m : Ex) : WMono (wE cl co EX m) := fun ev hp Q Q' h q => wr_mono hc m ev hp Q Q' _ _ h (fun _ _ _ z => z) q
theorem wB_mono (hc : CallMono cl) (m : Ex) : WMono (wB cl co EX m) := fun ev hp Q Q' h q => borK_mono h (fun q => wr_mono hc m ev hp Q Q' _ _ h (fun _ _ _ z => z) q) q
theorem contB_le {p : Pt} {Q : VK} : SKle (contB C p Q) (cont C p Q) := fun x hp h v H' I k r f => h v H' I k r
theorem contB.back {p p' : Pt} {Q : VK} (k : KE p p') : SKle (contB C p Q) (contB C p' Q) := fun x hp h v H' I k' r => by
  have e : p.wh hp H' = p'.wh hp H' := by
    obtain ⟨e1, e2, _⟩ := k
    unfold Pt.wh
    rw [e1, e2]
  exact h v H' (by rw [e]; exact I) (by rw [e]; exact k.trans k') (by rw [e]; exact r)
def isV : Ex → Bool
  | .v _ => true
  | _ => false
theorem borK_ne {m : Ex} {ev : Ev} {hp : HpD} {w : SK → Prop} {Q : SK} (h : isV m = false) : borK m ev hp w Q = w Q := by
  cases m <;> first | rfl | cases h
/-- from a value to a look -/
theorem sB (hX : XOk c X C cl co EX) {m : Ex} {e : Expr} (h : chkE c m e = true) (hE : PE X e (liftE C (wE cl co EX m))) : PE X e (liftB C (wB cl co EX m)) := by
  cases hv : isV m with
  | false =>
    refine PE.imp hE fun σ H Q ⟨ev, hp, I, q⟩ => ⟨ev, hp, I, ?_⟩
    have q' : borK m ev hp (fun Q => wr cl co m ev hp Q (EX ev)) (contB C ⟨ev, σ, hp, H⟩ Q) := q
    rw [borK_ne hv] at q'
    exact wE_mono hX.cm m _ _ _ _ contB_le q'
  | true =>
    cases m with
    | v i =>
      simp only [chkE] at h
      split at h
      · simp only [Bool.and_eq_true, decide_eq_true_eq] at h
        obtain ⟨v1, v2, v3⟩ := hX.vis h.2
        refine PE.imp (pe_var (i := i) (by rw [hX.N]; exact h.1) v1 v2 v3) fun σ H Q ⟨ev, hp, I, q⟩ => ?_
        obtain ⟨x, ex, q⟩ := slotK_iff.mp (show slotK ev i _ from q)
        obtain ⟨v, hv, r⟩ := I.slot i x ex
        exact ⟨v, hv, q v H I (KE.refl _) r⟩
      · cases h
    | _ => cases hv

/-! ### rules -/
theorem rOp2 {wa wb : WE} (ma : WMono wa) (mb : WMono wb) {r : R2} {op : SV → SV → HpD → SK → Prop}
    (hop : ∀ (p : Pt) (x y : SV) (v u : V) (Q : VK), I3 C p → RepB C p x v → RepB C p y u → op x y p.hp (cont C p Q) → r v u p.H Q) (mop : ∀ x y hp Q Q', SKle Q Q' → op x y hp Q → op x y hp Q') (σ : L2.St) (H : Hp) (Q : VK)
    (h : liftE C (fun ev hp Q => wa ev hp fun x hp => wb ev hp fun y hp => op x y hp Q) σ H Q) : tOp r (liftB C wa) (liftB C wb) σ H Q := by
  obtain ⟨ev, hp, I, h⟩ := h
  refine ⟨ev, hp, I, ma _ _ _ _ ?_ h⟩
  intro x hp1 h1 v H1 I1 k1 rx
  refine ⟨ev, hp1, I1, mb _ _ _ _ ?_ h1⟩
  intro y hp2 h2 u H2 I2 k2 ry
  exact hop _ x y v u Q I2 (rx.ke k2) ry (mop _ _ _ _ _ (cont.back (k1.trans k2)) h2)
def liftT (C : BC) (w : WE) : TT := fun σ H Q => ∃ ev hp, I3 C ⟨ev, σ, hp, H⟩ ∧ w ev hp (truK fun b hp' => ∀ H', I3 C ⟨ev, σ, hp', H'⟩ → KE ⟨ev, σ, hp, H⟩ ⟨ev, σ, hp', H'⟩ → Q b H')
/-- as a test, where it is no and, or, not, if -/
theorem pt_of {e : Expr} {w : WE} (mw : WMono w) (h : PE X e (liftE C w)) (he : ∀ whole, isTrue e X.env whole = (do let v ← whole; standAt e.pos; holding [v] (truthy v))) : PT X e (liftT C w) := by
  refine PT.imp (pt_val h he) fun σ H Q ⟨ev, hp, I, q⟩ => ⟨ev, hp, I, mw _ _ _ _ ?_ q⟩
  intro x hp' q' v H' I' k r f
  unfold truK at q'
  split at q'
  · rw [r.bl]
    exact ⟨_, rfl, q' H' I' k⟩
  · exact q'.elim
theorem truK_cont {p : Pt} {Q : VK} {k : Bool → HpD → Prop} (h : ∀ b hp', k b hp' → ∀ H', I3 C (p.wh hp' H') → KE p (p.wh hp' H') → Q (.bl b) H') : SKle (truK k) (cont C p Q) := fun x hp' q v H' I' k' r f => by
  unfold truK at q
  split at q
  · rw [r.bl]
    exact h _ _ q H' I' k'
  · exact q.elim
theorem truK_contB {p : Pt} {Q : VK} {k : Bool → HpD → Prop} (h : ∀ b hp', k b hp' → ∀ H', I3 C (p.wh hp' H') → KE p (p.wh hp' H') → Q (.bl b) H') : SKle (truK k) (contB C p Q) := fun x hp' q v H' I' k' r => by
  unfold truK at q
  split at q
  · rw [r.bl]
    exact h _ _ q H' I' k'
  · exact q.elim
theorem intK_cont {p : Pt} {Q : VK} {k : Int → HpD → Prop} (h : ∀ b hp', k b hp' → ∀ H', I3 C (p.wh hp' H') → KE p (p.wh hp' H') → Q (.int b) H') : SKle (intK k) (cont C p Q) := fun x hp' q v H' I' k' r f => by
  unfold intK at q
  split at q
  · rw [r.int]
    exact h _ _ q H' I' k'
  · exact q.elim
def liftA (C : BC) (w : Ev → HpD → (List D → HpD → Prop) → Prop) : TA := fun σ H Q => ∃ ev hp, I3 C ⟨ev, σ, hp, H⟩ ∧ w ev hp (fun ds hp' => ∀ vs H', I3 C ⟨ev, σ, hp', H'⟩ → KE ⟨ev, σ, hp, H⟩ ⟨ev, σ, hp', H'⟩ → RepsP C ⟨ev, σ, hp', H'⟩ ds vs → Q vs H')
theorem strK_cont {p : Pt} {Q : VK} {k : Str → HpD → Prop} (h : ∀ b hp', k b hp' → ∀ H', I3 C (p.wh hp' H') → KE p (p.wh hp' H') → Q (.str b) H') : SKle (strK k) (cont C p Q) := fun x hp' q v H' I' k' r f => by
  unfold strK at q
  split at q
  · rw [RepB.str r]
    exact h _ _ q H' I' k'
  · exact q.elim
theorem valK_cont {p : Pt} {Q : VK} {k : D → HpD → Prop} (I0 : I3 C p) (h : ∀ d hp', k d hp' → ∀ v H', I3 C (p.wh hp' H') → KE p (p.wh hp' H') → RepP C (p.wh hp' H') d v → Q v H') : SKle (valK k) (cont C p Q) := fun x hp' q v H' I' k' r f => by
  cases x with
  | d x => exact h _ _ q v H' I' k' r
  | ol l => exact h _ _ q v H' I' k' (r.frz ((f.fresh I0).ke k'))
  | od l => exact q.elim
end
end Mi

namespace Mi
open PySem PySem.Spec PyProof.Rows L2
section
variable {X : Cx} {C : BC}
theorem pt_test {e : Expr} {w : WE} {t : TE} (mw : WMono w) (h : PT X e (tTest t)) (f : ∀ σ H Q, liftE C w σ H Q → t σ H Q) : PT X e (liftT C w) :=
  PT.imp h fun σ H Q ⟨ev, hp, I, q⟩ => f σ H _ ⟨ev, hp, I, mw _ _ _ _ (truK_cont fun b hp' q H' I' k => ⟨b, rfl, q H' I' k⟩) q⟩
theorem pt_ite {a b d : Expr} {pos : Pos} {ta tb td : TT} (ha : PT X a ta) (hb : PT X b tb) (hd : PT X d td) : PT X (.IfExp a b d pos) (fun σ H Q => ta σ H fun k H1 => if k = true then tb σ H1 Q else td σ H1 Q) := by
  refine ⟨fun pins s σ H Q I h => ?_⟩
  show wpAny _ _ (isTrue a X.env (eval a X.env) >>= fun t => if t = true then isTrue b X.env (eval b X.env) else isTrue d X.env (eval d X.env)) _ _ s
  refine wpAny_bind (thn (ha.run pins s σ H _ I h) ?_)
  rintro k s1 ⟨H1, I1, q⟩
  cases k with
  | true => exact hb.run pins s1 σ H1 Q I1 q
  | false => exact hd.run pins s1 σ H1 Q I1 q
theorem mark_of {e : Expr} {op : CmpOp} (h : plainE e = true) : behindInMarks op e = false := by
  cases e <;> first | rfl | cases h
theorem star_of {e : Expr} {es : List Expr} {env : Env} (h : plainE e = true) : starEach (e :: es) env = (false, eval e env) :: starEach es env := by
  cases e <;> first | rfl | cases h
theorem plain_ix {y : Expr} (h : notSl y = true) : PlainIx y := by
  cases y <;> first | exact fun _ _ => rfl | cases h
theorem folded_of {e : Expr} {env : Env} (h : plainE e = true) : ∀ x, foldedSetIterable e env x = pure x := by
  intro x
  cases e <;> first | rfl | cases h
end
section
variable {c : Ctx} {X : Cx} {C : BC} {cl : CallT} {co : ConT} {EX : Ev → EK}
/-- a binary operator -/
theorem e_bin (hX : XOk c X C cl co EX) {o : BOp} {a b : Ex} {x y : Expr} {pos : Pos} (ca : chkE c a x = true) (cb : chkE c b y = true) (ha : PE X x (liftE C (wE cl co EX a))) (hb : PE X y (liftE C (wE cl co EX b))) :
    PE X (.BinOp x (opOf o) y pos) (liftE C (wE cl co EX (.bin o a b))) := by
  obtain ⟨r, hr, hop⟩ := opBin_ok hX.K o
  refine PE.imp (pe_op hr (sB hX ca ha) (sB hX cb hb)) fun σ H Q h => ?_
  refine rOp2 (op := opBin o) (wB_mono hX.cm a) (wB_mono hX.cm b) hop (fun x y hp Q Q' h q => opBin_mono h q) σ H Q ?_
  obtain ⟨ev, hp, I, h⟩ := h
  exact ⟨ev, hp, I, by simpa only [wE, wr] using h⟩
theorem cmp_hop (hK : C.K = X.K) (hw : C.pw = (X.prog, X.w)) (hu : X.A.units + 66 < cLine) (o : COp) (ho : isB o = true) : ∃ r : R2, OpR X (compareOp (cOf o)) r ∧
    (∀ (p : Pt) (x y : SV) (v u : V) (Q : VK), I3 C p → RepB C p x v → RepB C p y u → (opCmp o x y p.hp fun b => Q (.bl b) p.H) → r v u p.H Q) := by
  obtain ⟨r, hr, hop⟩ := opCmp_ok (X := X) (C := C) hK hw hu o
  refine ⟨r, hr, fun p x y v u Q I rx ry q => hop p x y v u Q I rx ry ?_ q⟩
  intro z
  rcases z with z | z <;> (subst z; cases ho)
theorem e_cmp (hX : XOk c X C cl co EX) {o : COp} {a b : Ex} {x y : Expr} {pos : Pos} (ho : isB o = true) (py : plainE y = true) (ca : chkE c a x = true) (cb : chkE c b y = true) (ha : PE X x (liftE C (wE cl co EX a))) (hb : PE X y (liftE C (wE cl co EX b))) :
    PE X (.Compare x [cOf o] [y] pos) (liftE C (wE cl co EX (.cmp o a b))) ∧ PT X (.Compare x [cOf o] [y] pos) (liftT C (wE cl co EX (.cmp o a b))) := by
  obtain ⟨r, hr, hop⟩ := cmp_hop (X := X) (C := C) hX.K hX.pw hX.hu o ho
  have key : ∀ σ H Q, liftE C (wE cl co EX (.cmp o a b)) σ H Q → tOp r (liftB C (wB cl co EX a)) (liftB C (wB cl co EX b)) σ H Q := fun σ H Q ⟨ev, hp, I, h⟩ => by
    refine rOp2 (op := fun x y hp Q => opCmp o x y hp fun c => Q (.d (.bl c)) hp) (wB_mono hX.cm a) (wB_mono hX.cm b) (fun p x y v u Q I rx ry q => hop p x y v u Q I rx ry (opCmp_mono (fun b q => cont.hereD I q (.bl b)) q))
      (fun x y hp Q Q' h q => opCmp_mono (fun b q => h _ _ q) q) σ H Q ⟨ev, hp, I, ?_⟩
    simpa only [wE, wr] using h
  exact ⟨PE.imp (pe_cmpR hr (sB hX ca ha) (sB hX cb hb) (mark_of py)) key, pt_test (wE_mono hX.cm _) (pt_cmpR hr (sB hX ca ha) (sB hX cb hb) (mark_of py)) key⟩
theorem e_isn (hX : XOk c X C cl co EX) {a : Ex} {x : Expr} {j : Nat} {pos p2 : Pos} (ca : chkE c a x = true) (ha : PE X x (liftE C (wE cl co EX a))) :
    PE X (.Compare x [.Is] [.Constant .none j p2] pos) (liftE C (wE cl co EX (.cmp .isn a .non))) ∧ PT X (.Compare x [.Is] [.Constant .none j p2] pos) (liftT C (wE cl co EX (.cmp .isn a .non))) := by
  have key : ∀ σ H Q, liftE C (wE cl co EX (.cmp .isn a .non)) σ H Q → tOp (fun x y H Q => y = .non ∧ Q (.bl (decide (x = .non))) H) (liftB C (wB cl co EX a)) (tC .non) σ H Q := fun σ H Q ⟨ev, hp, I, h⟩ => by
    refine ⟨ev, hp, I, wB_mono hX.cm a _ _ _ _ ?_ (by simpa only [wE, wr] using h)⟩
    intro z hp' q v H' I' k r
    have q' : opCmp .isn z (.d .non) hp' fun b => cont C ⟨ev, σ, hp, H⟩ Q (.d (.bl b)) hp' := q
    have fin : ∀ b, decide (v = .non) = b → cont C ⟨ev, σ, hp, H⟩ Q (.d (.bl b)) hp' → (V.non = V.non ∧ Q (.bl (decide (v = .non))) H') := fun b e h => by
      rw [e]
      exact ⟨rfl, cont.hereD I' (cont.back k _ _ h) (.bl b)⟩
    simp only [opCmp] at q'
    split at q'
    · exact fin _ (decide_eq_true ((non_iff r).mpr rfl)) q'
    · rename_i hne
      exact fin _ (decide_eq_false fun z => hne ((non_iff r).mp z)) q'
  exact ⟨PE.imp (pe_cmpR op_isN (sB hX ca ha) pe_non rfl) key, pt_test (wE_mono hX.cm _) (pt_cmpR op_isN (sB hX ca ha) pe_non rfl) key⟩
theorem e_isnot (hX : XOk c X C cl co EX) {a : Ex} {x : Expr} {j : Nat} {pos p2 : Pos} (ca : chkE c a x = true) (ha : PE X x (liftE C (wE cl co EX a))) :
    PE X (.Compare x [.IsNot] [.Constant .none j p2] pos) (liftE C (wE cl co EX (.cmp .isnotn a .non))) ∧ PT X (.Compare x [.IsNot] [.Constant .none j p2] pos) (liftT C (wE cl co EX (.cmp .isnotn a .non))) := by
  have key : ∀ σ H Q, liftE C (wE cl co EX (.cmp .isnotn a .non)) σ H Q → tOp (fun x y H Q => y = .non ∧ Q (.bl (!decide (x = .non))) H) (liftB C (wB cl co EX a)) (tC .non) σ H Q := fun σ H Q ⟨ev, hp, I, h⟩ => by
    refine ⟨ev, hp, I, wB_mono hX.cm a _ _ _ _ ?_ (by simpa only [wE, wr] using h)⟩
    intro z hp' q v H' I' k r
    have q' : opCmp .isnotn z (.d .non) hp' fun b => cont C ⟨ev, σ, hp, H⟩ Q (.d (.bl b)) hp' := q
    have fin : ∀ b, decide (v = .non) = b → cont C ⟨ev, σ, hp, H⟩ Q (.d (.bl (!b))) hp' → (V.non = V.non ∧ Q (.bl (!decide (v = .non))) H') := fun b e h => by
      rw [e]
      exact ⟨rfl, cont.hereD I' (cont.back k _ _ h) (.bl _)⟩
    simp only [opCmp] at q'
    split at q'
    · exact fin true (decide_eq_true ((non_iff r).mpr rfl)) q'
    · rename_i hne
      exact fin false (decide_eq_false fun z => hne ((non_iff r).mp z)) q'
  exact ⟨PE.imp (pe_cmpR op_notN (sB hX ca ha) pe_non rfl) key, pt_test (wE_mono hX.cm _) (pt_cmpR op_notN (sB hX ca ha) pe_non rfl) key⟩
theorem same_bl {M : Model} {A : Around} {E : Value → Shared → Prop} {s : Shared} {x : V} {u : Value} {b : Bool} {R : Bool → Shared → Prop} (r : RelV x u) (q : R (decide (x = .bl b)) s) : wpAny M A (isSame u (.bool b)) R E s := by
  have no : ∀ {u : Value}, plainIs u (.bool b) = true → (u == Value.bool b) = decide (x = .bl b) → wpAny M A (isSame u (.bool b)) R E s := fun h1 h2 => wpAny_isSame_plain h1 (by rw [h2]; exact q)
  cases x with
  | bl c =>
    cases r
    refine no rfl ?_
    cases b <;> cases c <;> rfl
  | ref a => cases r; exact no rfl rfl
  | non => cases r; exact no rfl rfl
  | int i => obtain ⟨t, rfl⟩ := r; exact no rfl rfl
  | str x => obtain ⟨t, rfl⟩ := r; exact no rfl rfl
  | byt x => obtain ⟨t, rfl⟩ := r; exact no rfl rfl
  | flt x => obtain ⟨t, rfl⟩ := r; exact no rfl rfl
  | ty n => cases r; exact no rfl rfl
theorem op_isB : OpR X (compareOp .Is) (fun x y H Q => ∃ b, y = .bl b ∧ Q (.bl (decide (x = .bl b))) H) := by
  intro pins s σ H x y v u Q I rx ry h
  obtain ⟨b, rfl, q⟩ := h
  cases ry
  show wpAny _ _ ((isSame v (Value.bool b)) >>= fun z => pure (Value.bool z)) _ _ s
  exact wpAny_bind (same_bl rx (wpAny_pure (fin_bl I q rfl)))
theorem op_isnotB : OpR X (compareOp .IsNot) (fun x y H Q => ∃ b, y = .bl b ∧ Q (.bl (!decide (x = .bl b))) H) := by
  intro pins s σ H x y v u Q I rx ry h
  obtain ⟨b, rfl, q⟩ := h
  cases ry
  show wpAny _ _ ((isSame v (Value.bool b)) >>= fun z => pure (Value.bool (!z))) _ _ s
  exact wpAny_bind (same_bl rx (wpAny_pure (fin_bl I q rfl)))
theorem isBl_eq {p : Pt} {x : SV} {v : V} {b : Bool} (r : RepB C p x v) : decide (v = .bl b) = isBl b x := by
  cases x with
  | od l => exact r.elim
  | ol l => obtain ⟨a, vs, rfl, _⟩ := r; rfl
  | d x =>
    cases x with
    | bl c =>
      rw [RepB.bl r]
      show decide (V.bl c = V.bl b) = decide (c = b)
      cases b <;> cases c <;> rfl
    | _ => cases r <;> rfl
theorem e_isB (hX : XOk c X C cl co EX) {a : Ex} {x : Expr} {j : Nat} {t : Bool} {pos p2 : Pos} (ca : chkE c a x = true) (ha : PE X x (liftE C (wE cl co EX a))) :
    PE X (.Compare x [.Is] [.Constant (.bool t) j p2] pos) (liftE C (wE cl co EX (.cmp .isn a (.bl t)))) ∧ PT X (.Compare x [.Is] [.Constant (.bool t) j p2] pos) (liftT C (wE cl co EX (.cmp .isn a (.bl t)))) := by
  have key : ∀ σ H Q, liftE C (wE cl co EX (.cmp .isn a (.bl t))) σ H Q → tOp (fun x y H Q => ∃ b, y = .bl b ∧ Q (.bl (decide (x = .bl b))) H) (liftB C (wB cl co EX a)) (tC (.bl t)) σ H Q := fun σ H Q ⟨ev, hp, I, h⟩ => by
    refine ⟨ev, hp, I, wB_mono hX.cm a _ _ _ _ ?_ (by simpa only [wE, wr] using h)⟩
    intro z hp' q v H' I' k r
    have q' : cont C ⟨ev, σ, hp, H⟩ Q (.d (.bl (isBl t z))) hp' := q
    exact ⟨t, rfl, by rw [isBl_eq r]; exact cont.hereD I' (cont.back k _ _ q') (.bl _)⟩
  exact ⟨PE.imp (pe_cmpR op_isB (sB hX ca ha) pe_bl rfl) key, pt_test (wE_mono hX.cm _) (pt_cmpR op_isB (sB hX ca ha) pe_bl rfl) key⟩
theorem e_isnotB (hX : XOk c X C cl co EX) {a : Ex} {x : Expr} {j : Nat} {t : Bool} {pos p2 : Pos} (ca : chkE c a x = true) (ha : PE X x (liftE C (wE cl co EX a))) :
    PE X (.Compare x [.IsNot] [.Constant (.bool t) j p2] pos) (liftE C (wE cl co EX (.cmp .isnotn a (.bl t)))) ∧ PT X (.Compare x [.IsNot] [.Constant (.bool t) j p2] pos) (liftT C (wE cl co EX (.cmp .isnotn a (.bl t)))) := by
  have key : ∀ σ H Q, liftE C (wE cl co EX (.cmp .isnotn a (.bl t))) σ H Q → tOp (fun x y H Q => ∃ b, y = .bl b ∧ Q (.bl (!decide (x = .bl b))) H) (liftB C (wB cl co EX a)) (tC (.bl t)) σ H Q := fun σ H Q ⟨ev, hp, I, h⟩ => by
    refine ⟨ev, hp, I, wB_mono hX.cm a _ _ _ _ ?_ (by simpa only [wE, wr] using h)⟩
    intro z hp' q v H' I' k r
    have q' : cont C ⟨ev, σ, hp, H⟩ Q (.d (.bl (!isBl t z))) hp' := q
    exact ⟨t, rfl, by rw [isBl_eq r]; exact cont.hereD I' (cont.back k _ _ q') (.bl _)⟩
  exact ⟨PE.imp (pe_cmpR op_isnotB (sB hX ca ha) pe_bl rfl) key, pt_test (wE_mono hX.cm _) (pt_cmpR op_isnotB (sB hX ca ha) pe_bl rfl) key⟩
theorem e_cmp2 (hX : XOk c X C cl co EX) {o q : COp} {a b d : Ex} {x y z : Expr} {pos : Pos} (ho : isB o = true) (hq : isB q = true) (py : plainE y = true) (pz : plainE z = true) (ca : chkE c a x = true) (cb : chkE c b y = true) (cd : chkE c d z = true)
    (ha : PE X x (liftE C (wE cl co EX a))) (hb : PE X y (liftE C (wE cl co EX b))) (hd : PE X z (liftE C (wE cl co EX d))) :
    ∃ t, (∀ σ H Q, liftE C (wE cl co EX (.cmp2 o q a b d)) σ H Q → t σ H Q) ∧ PE X (.Compare x [cOf o, cOf q] [y, z] pos) t ∧ PT X (.Compare x [cOf o, cOf q] [y, z] pos) (tTest t) := by
  obtain ⟨r, hr, hop⟩ := cmp_hop (X := X) (C := C) hX.K hX.pw hX.hu o ho
  obtain ⟨r', hr', hop'⟩ := cmp_hop (X := X) (C := C) hX.K hX.pw hX.hu q hq
  refine ⟨tChain r r' (liftB C (wB cl co EX a)) (liftB C (wB cl co EX b)) (liftB C (wB cl co EX d)), fun σ H Q ⟨ev, hp, I, h⟩ => ?_, pe_chain hr hr' (sB hX ca ha) (sB hX cb hb) (sB hX cd hd) (mark_of pz), pt_chain hr hr' (sB hX ca ha) (sB hX cb hb) (sB hX cd hd) (mark_of pz)⟩
  have h' := h
  simp only [wE, wr] at h'
  refine ⟨ev, hp, I, wB_mono hX.cm a _ _ _ _ ?_ h'⟩
  intro x1 hp1 h1 v1 H1 I1 k1 r1
  refine ⟨ev, hp1, I1, wB_mono hX.cm b _ _ _ _ ?_ h1⟩
  intro x2 hp2 h2 v2 H2 I2 k2 r2
  refine hop _ x1 x2 v1 v2 _ I2 (r1.ke k2) r2 (opCmp_mono (fun t ht => ⟨t, rfl, ?_⟩) h2)
  cases t with
  | true =>
    rw [if_pos rfl] at ht ⊢
    refine ⟨ev, hp2, I2, wB_mono hX.cm d _ _ _ _ ?_ ht⟩
    intro x3 hp3 h3 v3 H3 I3' k3 r3
    exact hop' _ x2 x3 v2 v3 _ I3' (r2.ke k3) r3 (opCmp_mono (fun t ht => cont.hereD I3' (cont.back (k1.trans (k2.trans k3)) _ _ ht) (.bl t)) h3)
  | false =>
    rw [if_neg Bool.false_ne_true] at ht ⊢
    exact cont.hereD I2 (cont.back (k1.trans k2) _ _ ht) (.bl false)
theorem e_ix (hX : XOk c X C cl co EX) {a i : Ex} {x y : Expr} {pos : Pos} (py : notSl y = true) (ca : chkE c a x = true) (ha : PE X x (liftE C (wE cl co EX a))) (hi : PE X y (liftE C (wE cl co EX i))) :
    PE X (.Subscript x y pos) (liftE C (wE cl co EX (.ix a i))) := by
  refine PE.imp (pe_ix ix_seq (sB hX ca ha) hi (plain_ix py)) fun σ H Q ⟨ev, hp, I, h⟩ => ?_
  simp only [wE, wr] at h
  refine ⟨ev, hp, I, wB_mono hX.cm a _ _ _ _ ?_ h⟩
  intro x1 hp1 h1 v1 H1 I1 k1 r1
  refine ⟨ev, hp1, I1, wE_mono hX.cm i _ _ _ _ ?_ h1⟩
  refine intK_cont fun j hp2 h2 H2 I2 k2 => ?_
  exact opIx_ok hX.K _ x1 j v1 Q I2 (r1.ke k2) (opIx_mono (cont.back (k1.trans k2)) h2)
theorem e_sl (hX : XOk c X C cl co EX) {a lo hi : Ex} {x : Expr} {l u : Option Expr} {pos p2 : Pos} (ca : chkE c a x = true) (ha : PE X x (liftE C (wE cl co EX a)))
    (hl : ∃ t, PO X l t ∧ ∀ σ H (Q : Option Int → Hp → Prop) ev hp, I3 C ⟨ev, σ, hp, H⟩ → prtK lo hp (fun Q => wr cl co lo ev hp Q (EX ev)) (fun o hp' => ∀ H', I3 C ⟨ev, σ, hp', H'⟩ → KE ⟨ev, σ, hp, H⟩ ⟨ev, σ, hp', H'⟩ → Q o H') → t σ H Q)
    (hh : ∃ t, PO X u t ∧ ∀ σ H (Q : Option Int → Hp → Prop) ev hp, I3 C ⟨ev, σ, hp, H⟩ → prtK hi hp (fun Q => wr cl co hi ev hp Q (EX ev)) (fun o hp' => ∀ H', I3 C ⟨ev, σ, hp', H'⟩ → KE ⟨ev, σ, hp, H⟩ ⟨ev, σ, hp', H'⟩ → Q o H') → t σ H Q) :
    PE X (.Subscript x (.Slice l u none p2) pos) (liftE C (wE cl co EX (.sl a lo hi))) := by
  obtain ⟨r, hr, hop⟩ := opSl_ok (X := X) (C := C) hX.K
  obtain ⟨tl, pl, fl⟩ := hl
  obtain ⟨th, ph, fh⟩ := hh
  refine PE.imp (pe_slice hr (sB hX ca ha) pl ph) fun σ H Q ⟨ev, hp, I, h⟩ => ?_
  simp only [wE, wr] at h
  refine ⟨ev, hp, I, wB_mono hX.cm a _ _ _ _ ?_ h⟩
  intro x1 hp1 h1 v1 H1 I1 k1 r1
  refine fl σ H1 _ ev hp1 I1 (prtK_mono (fun o hp2 h2 H2 I2 k2 => ?_) (fun K K' hK q => wE_mono hX.cm lo _ _ _ _ hK q) h1)
  refine fh σ H2 _ ev hp2 I2 (prtK_mono (fun o2 hp3 h3 H3 I3' k3 => ?_) (fun K K' hK q => wE_mono hX.cm hi _ _ _ _ hK q) h2)
  exact hop _ x1 o o2 v1 Q I3' (r1.ke (k2.trans k3)) (opSl_mono (cont.back (k1.trans (k2.trans k3))) h3)
theorem e_back (hX : XOk c X C cl co EX) {a : Ex} {x : Expr} {k : Nat} {p1 p2 p3 pos : Pos} (ca : chkE c a x = true) (ha : PE X x (liftE C (wE cl co EX a))) :
    PE X (.Subscript x (.Slice none none (some (.UnaryOp .USub (.Constant (.int 1) k p1) p2)) p3) pos) (liftE C (wE cl co EX (.back a))) := by
  obtain ⟨r, hr, hop⟩ := opBack_ok (X := X) (C := C) hX.K
  refine PE.imp (pe_back hr (sB hX ca ha)) fun σ H Q ⟨ev, hp, I, h⟩ => ?_
  simp only [wE, wr] at h
  refine ⟨ev, hp, I, wB_mono hX.cm a _ _ _ _ ?_ h⟩
  intro x1 hp1 h1 v1 H1 I1 k1 r1
  exact hop _ x1 v1 Q I1 r1 (opBack_mono (cont.back k1) h1)
theorem e_b1 (hX : XOk c X C cl co EX) {f : B1} {a : Ex} {e : Expr} {p pos : Pos} (hb : biB c (b1n f) = true) (pe : plainE e = true) (ca : chkE c a e = true) (ha : PE X e (liftE C (wE cl co EX a))) :
    PE X (.Call (.Name (b1n f) p) [e] [] pos) (liftE C (wE cl co EX (.b1 f a))) := by
  obtain ⟨r, hr, hop⟩ := opB1_ok (X := X) (C := C) hX.K hX.calm hX.hu hX.gd f
  obtain ⟨g, m, d1, d2⟩ := hX.blt hb
  have pa : PA X [e] (tCons (liftB C (wB cl co EX a)) tNil) := pa_cons (sB hX ca ha) pa_nil (star_of pe)
  have key : ∀ σ H Q, liftE C (wE cl co EX (.b1 f a)) σ H Q → tCB r (tCons (liftB C (wB cl co EX a)) tNil) σ H Q := fun σ H Q ⟨ev, hp, I, h⟩ => by
    simp only [wE, wr] at h
    refine ⟨ev, hp, I, wB_mono hX.cm a _ _ _ _ ?_ h⟩
    intro x1 hp1 h1 v1 H1 I1 k1 r1
    exact hop _ x1 v1 Q I1 r1 (opB1_mono (cont.back k1) h1)
  have bt := b1_boot f
  cases hv : b1v f with
  | fn id =>
    rw [hv] at bt hr
    exact PE.imp (pe_callB hr g m bt pa d2 d1 (star_of pe)) key
  | ty id =>
    rw [hv] at bt hr
    exact PE.imp (pe_callTy hr g m bt pa d2 d1 (star_of pe)) key
theorem e_b2 (hX : XOk c X C cl co EX) {f : B2} {a b : Ex} {e e' : Expr} {p pos : Pos} (hb : biB c (b2n f) = true) (pe : plainE e = true) (pe' : plainE e' = true) (ha : PE X e (liftE C (wE cl co EX a))) (hb' : PE X e' (liftE C (wE cl co EX b))) :
    PE X (.Call (.Name (b2n f) p) [e, e'] [] pos) (liftE C (wE cl co EX (.b2 f a b))) := by
  obtain ⟨r, hr, hop⟩ := opB2_ok (X := X) (C := C) hX.calm f
  obtain ⟨g, m, d1, d2⟩ := hX.blt hb
  have pa : PA X [e, e'] (tCons (liftE C (wE cl co EX a)) (tCons (liftE C (wE cl co EX b)) tNil)) := pa_cons ha (pa_cons hb' pa_nil (star_of pe')) (star_of pe)
  refine PE.imp (pe_callB hr g m (b2_boot f) pa d2 d1 (star_of pe) (by rw [star_of pe']; rfl)) fun σ H Q ⟨ev, hp, I, h⟩ => ?_
  simp only [wE, wr] at h
  refine ⟨ev, hp, I, wE_mono hX.cm a _ _ _ _ ?_ h⟩
  intro x1 hp1 h1 v1 H1 I1 k1 r1 f1
  refine ⟨ev, hp1, I1, wE_mono hX.cm b _ _ _ _ ?_ h1⟩
  intro x2 hp2 h2 v2 H2 I2 k2 r2 f2
  exact hop _ x1 x2 v1 v2 Q I2 (r1.ke k2) r2 (opB2_mono (cont.back (k1.trans k2)) h2)
theorem e_m1 (hX : XOk c X C cl co EX) {m : M1} {o a : Ex} {x v : Expr} {apos cpos : Pos} (hl : (apos.endLine == cpos.line) = true) (pv : plainE v = true) (hr : recvB x = true) (co' : chkE c o x = true) (ho : PE X x (liftE C (wE cl co EX o))) (ha : PE X v (liftE C (wE cl co EX a))) :
    PE X (.Call (.Attribute x (m1n m) apos) [v] [] cpos) (liftE C (wE cl co EX (.m1 m o a))) := by
  have hb : attributeBase x (m1n m) X.env (eval x X.env) = eval x X.env := by cases x <;> first | rfl | cases hr
  have s0 : starEach [v] X.env = [(false, eval v X.env)] := star_of pv
  have hfew : ((backTo cpos (starEach [v] X.env)).all (fun x => !x.1) && (backToKw cpos (keywordEach [] X.env)).all (fun x => x.1.isSome)
      && decide (([v] : List Expr).length + ([] : List Keyword).length + (if ([] : List Keyword).isEmpty then 0 else 1) < 30)) = true := by rw [s0]; rfl
  obtain ⟨T, name, id, r, pl, slot, ty, rfl, mt, hop, hty⟩ := opM1_ok (X := X) (C := C) m
  refine PE.imp (pe_bm pl slot ty mt (sB hX co' ho) (pa_cons ha pa_nil (star_of pv)) hb hfew hl (star_of pv)) fun σ H Q ⟨ev, hp, I, h⟩ => ?_
  simp only [wE, wr] at h
  refine ⟨ev, hp, I, wB_mono hX.cm o _ _ _ _ ?_ h⟩
  intro x1 hp1 h1 v1 H1 I1 k1 r1
  refine ⟨hty _ x1 v1 r1 h1.1, ev, hp1, I1, wE_mono hX.cm a _ _ _ _ ?_ h1.2⟩
  intro x2 hp2 h2 v2 H2 I2 k2 r2 f2
  exact hop _ x1 x2 v1 v2 Q I2 (r1.ke k2) r2 (opM1_mono (cont.back (k1.trans k2)) h2)
theorem e_m0 (hX : XOk c X C cl co EX) {m : M0} {o : Ex} {x : Expr} {apos cpos : Pos} (hl : (apos.endLine == cpos.line) = true) (hr : recvB x = true) (co' : chkE c o x = true) (ho : PE X x (liftE C (wE cl co EX o))) :
    PE X (.Call (.Attribute x (m0n m) apos) [] [] cpos) (liftE C (wE cl co EX (.m0 m o))) := by
  have hb : attributeBase x (m0n m) X.env (eval x X.env) = eval x X.env := by cases x <;> first | rfl | cases hr
  obtain ⟨T, name, id, r, pl, slot, ty, rfl, mt, hop⟩ := opM0_ok (X := X) (C := C) m
  refine PE.imp (pe_bm0 pl slot ty mt (sB hX co' ho) hb hl) fun σ H Q ⟨ev, hp, I, h⟩ => ?_
  simp only [wE, wr] at h
  refine ⟨ev, hp, I, wB_mono hX.cm o _ _ _ _ ?_ h⟩
  intro x1 hp1 h1 v1 H1 I1 k1 r1
  exact hop _ x1 v1 Q I1 r1 (opM0_mono (cont.back k1) h1)
theorem e_isi (hX : XOk c X C cl co EX) {a : Ex} {t : Ty} {e : Expr} {p pos p3 : Pos} (hb : biB c "isinstance" = true) (ht : biB c (tyS t) = true) (pe : plainE e = true) (ca : chkE c a e = true) (ha : PE X e (liftE C (wE cl co EX a))) :
    PE X (.Call (.Name "isinstance" p) [e, .Name (tyS t) p3] [] pos) (liftE C (wE cl co EX (.isi a t))) := by
  obtain ⟨g, m, d1, d2⟩ := hX.blt hb
  obtain ⟨g2, m2, d3, d4⟩ := hX.blt ht
  have pty : PE X (.Name (tyS t) p3) (tC (.ty (tyn t))) := pe_bltn g2 m2 (ty_boot t) rfl d4 d3
  have pa : PA X [e, .Name (tyS t) p3] (tCons (liftB C (wB cl co EX a)) (tCons (tC (.ty (tyn t))) tNil)) := pa_cons (sB hX ca ha) (pa_cons pty pa_nil rfl) (star_of pe)
  refine PE.imp (pe_callB call_isi g m (by decide +kernel) pa d2 d1 (star_of pe) rfl) fun σ H Q ⟨ev, hp, I, h⟩ => ?_
  simp only [wE, wr] at h
  refine ⟨ev, hp, I, wB_mono hX.cm a _ _ _ _ ?_ h⟩
  intro x1 hp1 h1 v1 H1 I1 k1 r1
  obtain ⟨b, e1, h1⟩ := onSome_iff.mp h1
  exact isTy_ok hX.K _ t x1 v1 b Q I1 r1 e1 (cont.hereD I1 (cont.back k1 _ _ h1) (.bl b))
theorem e_tup (hX : XOk c X C cl co EX) {l : List Ex} {es : List Expr} {k : Nat} {pos : Pos} (hl : l.length ≤ 1000) (hA : PA X es (liftA C (fun ev hp Q => was cl co l ev hp Q (EX ev))))
    (hlen : ∀ ev hp (Q : List D → HpD → Prop), was cl co l ev hp Q (EX ev) → was cl co l ev hp (fun ds hp => ds.length = l.length ∧ Q ds hp) (EX ev)) : PE X (.Tuple es k pos) (liftE C (wE cl co EX (.tup l))) := by
  refine PE.imp (pe_tup hA) fun σ H Q ⟨ev, hp, I, h⟩ => ?_
  simp only [wE, wr] at h
  refine ⟨ev, hp, I, was_mono hX.cm l _ _ _ _ _ _ ?_ (fun _ _ _ z => z) (hlen ev hp _ h)⟩
  rintro ds hp1 ⟨e1, h1⟩ vs H1 I1 k1 r1
  refine ⟨?_, fun a ha => cont.laidT I1 (cont.back k1 _ _ h1) r1 ha⟩
  rw [← r1.length, e1]
  exact Nat.le_trans hl (by decide)
theorem e_lst (hX : XOk c X C cl co EX) {l : List Ex} {es : List Expr} {pos : Pos} (hl : l.length ≤ 1000) (hA : PA X es (liftA C (fun ev hp Q => was cl co l ev hp Q (EX ev))))
    (hlen : ∀ ev hp (Q : List D → HpD → Prop), was cl co l ev hp Q (EX ev) → was cl co l ev hp (fun ds hp => ds.length = l.length ∧ Q ds hp) (EX ev)) : PE X (.List es pos) (liftE C (wE cl co EX (.lst l))) := by
  refine PE.imp (pe_lst hA) fun σ H Q ⟨ev, hp, I, h⟩ => ?_
  simp only [wE, wr] at h
  refine ⟨ev, hp, I, was_mono hX.cm l _ _ _ _ _ _ ?_ (fun _ _ _ z => z) (hlen ev hp _ h)⟩
  rintro ds hp1 ⟨e1, h1⟩ vs H1 I1 k1 r1
  refine ⟨?_, fun a ha => cont.laidO I1 (cont.back k1 _ _ h1) r1 ha⟩
  rw [← r1.length, e1]
  exact Nat.le_trans hl (by decide)
theorem was_len (hc : CallMono cl) : ∀ (l : List Ex) (ev : Ev) (hp : HpD) (Q : List D → HpD → Prop) (E : EK), was cl co l ev hp Q E → was cl co l ev hp (fun ds hp => ds.length = l.length ∧ Q ds hp) E
  | [], ev, hp, Q, E, q => by simp only [was] at q ⊢; exact ⟨rfl, q⟩
  | e :: r, ev, hp, Q, E, q => by
    simp only [was] at q ⊢
    refine wr_mono hc e ev hp _ _ E E (valK_mono fun x hp q => ?_) (fun _ _ _ z => z) q
    refine was_mono hc r ev hp _ _ E E ?_ (fun _ _ _ z => z) (was_len hc r ev hp _ E q)
    rintro ds hp ⟨e1, q⟩
    exact ⟨by simp [e1], q⟩
end
end Mi

namespace Mi
open PySem PySem.Spec PyProof.Rows L2

/-! ### calls -/
/-- what a callee stands in -/
def inC (C : BC) (p : Pt) : BC := ⟨C.K, C.mg, C.pw, fun a => p.own a ∨ C.G a, p.H, p.hp⟩
abbrev p0 (hp : HpD) (H : Hp) : Pt := ⟨[], [], hp, H⟩
theorem no_own {hp : HpD} {H : Hp} {a : Addr} : ¬ (p0 hp H).own a := by
  rintro ⟨i, l, e, _⟩
  simp at e
theorem Fb_in {C : BC} {p : Pt} {hp' : HpD} {H' : Hp} : Fb (inC C p) (p0 hp' H') = Fb C (p.wh hp' H') := by
  funext a
  apply propext
  constructor
  · rintro (h | h | h | h)
    · exact .inl h
    · exact (no_own h).elim
    · exact .inr (.inl h)
    · exact .inr (.inr h)
  · rintro (h | h | h)
    · exact .inl h
    · exact .inr (.inr (.inl h))
    · exact .inr (.inr (.inr h))
theorem I3.down {C : BC} {p : Pt} (I : I3 C p) : I3 (inC C p) (p0 p.hp p.H) where
  len := rfl
  slot := fun i x e => by simp at e
  heap := fun a o e => by
    obtain ⟨u, e2, r⟩ := I.heap a o e
    refine ⟨u, e2, ?_⟩
    show RepM C.K C.mg C.pw p.H (Fb (inC C p) (p0 p.hp p.H)) a o u
    rw [Fb_in]; exact r
  g := fun a g => by
    rcases g with g | g
    · obtain ⟨i, l, e1, e2⟩ := g
      obtain ⟨v, e3, b, vs, e4, e5, e6, _⟩ := I.slot i _ e1
      rw [e2] at e3; cases e3; cases e4
      exact ⟨⟨_, e5⟩, e6, no_own⟩
    · obtain ⟨h1, h2, _⟩ := I.g a g
      exact ⟨h1, h2, no_own⟩
  uniq := fun i j l m a e => by simp at e
  kp := fun a o e f => ⟨e, f, no_own⟩
  up := fun a h => h
  on := fun a h => (no_own h).elim
theorem I3.back {C : BC} {p : Pt} {hp' : HpD} {H' : Hp} (I : I3 C p) (I' : I3 (inC C p) (p0 hp' H')) (k : KE (p0 p.hp p.H) (p0 hp' H')) : I3 C (p.wh hp' H') ∧ KE p (p.wh hp' H') := by
  have k2 : KE p (p.wh hp' H') := ⟨rfl, rfl, k.3, k.4⟩
  refine ⟨I.step k2 fun a o e => ?_, k2⟩
  obtain ⟨u, e2, r⟩ := I'.heap a o e
  refine ⟨u, e2, ?_⟩
  have r' : RepM C.K C.mg C.pw H' (Fb (inC C p) (p0 hp' H')) a o u := r
  rw [Fb_in] at r'
  exact r'
theorem RepB.up {C : BC} {p : Pt} {hp' : HpD} {H' : Hp} : ∀ {x : SV} {v : V}, RepB (inC C p) (p0 hp' H') x v → RepB C (p.wh hp' H') x v ∧ Fresh (p.wh hp' H') x v
  | .d x, v, h => by
    have h' : Rep C.K C.mg H' (Fb (inC C p) (p0 hp' H')) x v := h
    rw [Fb_in] at h'
    exact ⟨h', trivial⟩
  | .ol l, v, ⟨a, vs, e, h1, h2, h3, h4⟩ => by
    have h' : Reps C.K C.mg H' (Fb (inC C p) (p0 hp' H')) l vs := h4
    rw [Fb_in] at h'
    exact ⟨⟨a, vs, e, h1, h2, fun z => h3 (.inr z), h'⟩, fun b e2 z => by rw [e] at e2; cases e2; exact h3 (.inl z)⟩
  | .od l, v, h => h.elim
theorem Fb_inG {C : BC} {p : Pt} {hp' : HpD} {H' : Hp} {a : Addr} : Fb ((inC C p).wG a) (p0 hp' H') = Fb (C.wG a) (p.wh hp' H') := by
  funext u
  apply propext
  constructor
  · rintro (h | h | h | h | h)
    · exact .inl h
    · exact (no_own h).elim
    · exact .inr (.inr (.inl h))
    · exact .inr (.inl h)
    · exact .inr (.inr (.inr h))
  · rintro (h | h | h | h)
    · exact .inl h
    · exact .inr (.inr (.inr (.inl h)))
    · exact .inr (.inr (.inl h))
    · exact .inr (.inr (.inr (.inr h)))
theorem New.at0 {C : BC} {p : Pt} {hp' : HpD} {H' : Hp} (I : I3 C p) (I' : I3 C (p.wh hp' H')) (k : KE p (p.wh hp' H')) : ∀ {x : SV} {v : V}, New (inC C p) (p0 p.hp p.H) (p0 hp' H') x v → New C p (p.wh hp' H') x v
  | .ol l, v, h => fun a e => by
    obtain ⟨h1, h2, vs, h3, h4⟩ := h a e
    have h4' : Reps C.K C.mg H' (Fb ((inC C p).wG a) (p0 hp' H')) l vs := h4
    rw [Fb_inG] at h4'
    refine ⟨h1, I.addG I' k h1 ⟨_, h3⟩ (h2.g a (.inl rfl)).2.1 fun u o e2 => ?_, vs, h3, h4'⟩
    obtain ⟨w, e3, r⟩ := h2.heap u o e2
    have r' : RepM C.K C.mg C.pw H' (Fb ((inC C p).wG a) (p0 hp' H')) u o w := r
    rw [Fb_inG] at r'
    exact ⟨w, e3, r'⟩
  | .d x, v, h => trivial
  | .od l, v, h => trivial
theorem ExR.up {C : BC} {p : Pt} {hp' : HpD} {H' : Hp} {c : Str} {fs : List (Str × D)} {cls : Value} {d : Option Addr} (h : ExR (inC C p) (p0 hp' H') c fs cls d) : ExR C (p.wh hp' H') c fs cls d := by
  obtain ⟨a, dx, vs, e1, e2, e3, e4, e5, e6, e7, e8⟩ := h
  have e8' : PySem.Paired (fun (x : Str × D) (y : Str × V) => x.1 = y.1 ∧ Rep C.K C.mg H' (Fb (inC C p) (p0 hp' H')) x.2 y.2) fs vs := e8
  rw [Fb_in] at e8'
  exact ⟨a, dx, vs, e1, e2, e3, e4, e5, fun z => e7 (.inl z), fun z => e7 (.inr z), e8'⟩
section
variable {c : Ctx} {X : Cx} {C : BC} {cl : CallT} {co : ConT} {EX : Ev → EK}
theorem stars_of {pos : Pos} {env : Env} : ∀ {es : List Expr}, (∀ e ∈ es, plainE e = true) → (backTo pos (starEach es env)).any (·.1) = false
  | [], _ => rfl
  | e :: es, h => by
    rw [star_of (h e List.mem_cons_self)]
    show (false || (backTo pos (starEach es env)).any (·.1)) = false
    rw [Bool.false_or]
    exact stars_of fun e he => h e (List.mem_cons_of_mem _ he)
theorem XOk.passes (hX : XOk c X C cl co EX) : ∀ σ, PassesAt (L2.CX X.prog X.w) X σ (EL C EX σ) := fun σ => L2.passAt (W := fun cls d σ H => EL C EX σ cls d H) hX.tk σ
theorem e_callG (hX : XOk c X C cl co EX) {m : Ex} {f : Str} {l : List Ex} {dv : List D} {es : List Expr} {q pos : Pos} (hm : ∀ ev hp Q E, wr cl co m ev hp Q E → was cl co l ev hp (fun ds hp => cl f (ds ++ dv) hp Q E) E) (hg : glB c f = true) (hf : f ∈ c.fs) (hd : dv = [] ∨ (f, dv) ∈ c.df)
    (pl : ∀ e ∈ es, plainE e = true) (hnil : es = [] → l = []) (hA : PA X es (liftA C (fun ev hp Q => was cl co l ev hp Q (EX ev)))) :
    PE X (.Call (.Name f q) es [] pos) (liftE C (wE cl co EX m)) := by
  obtain ⟨k, a, fd, ps, F, hr, hm', hk, hb, hdf⟩ := (hX.fn f hf).ex
  obtain ⟨g, d1, d2⟩ := hX.gl hg
  obtain ⟨dV, ds0, hv, hb', hrep⟩ : ∃ (dV : List V) (ds : List Value), Vals dV ds ∧ Binds X.K fd ps ds ∧ ∀ H F, Reps C.K C.mg H F dv dV := by
    rcases hd with rfl | hd
    · exact ⟨[], [], .nil, hb, fun _ _ => .nil⟩
    · exact hdf _ hd rfl
  have key : ∀ σ H Q, liftE C (wE cl co EX m) σ H Q → tCallG (liftF C.K C.mg C.pw cl f) (EL C EX) dV (liftA C (fun ev hp Q => was cl co l ev hp Q (EX ev))) σ H Q := fun σ H Q ⟨ev, hp, I, h⟩ => by
    have h := hm _ _ _ _ h
    refine ⟨ev, hp, I, was_mono hX.cm l _ _ _ _ _ _ ?_ (fun _ _ _ z => z) h⟩
    intro ds hp1 h1 vs H1 I1 k1 r1
    refine ⟨ds ++ dv, hp1, fun a => Pt.own ⟨ev, σ, hp1, H1⟩ a ∨ C.G a, I1.down, ?_, hX.cm _ _ _ _ _ _ _ ?_ ?_ h1⟩
    · show Reps C.K C.mg H1 (Fb (inC C ⟨ev, σ, hp1, H1⟩) (p0 hp1 H1)) (ds ++ dv) (vs ++ dV)
      rw [Fb_in]; exact r1.append (hrep _ _)
    · intro x hp2 h2 v H2 I2 k2 r2 f2
      obtain ⟨I2', k2'⟩ := I1.back I2 k2
      exact cont.back k1 _ _ h2 v H2 I2' k2' (RepB.up r2).1 (New.at0 I1 I2' k2' f2)
    · intro cn fs hp2 h2 cls d H2 I2 k2 er
      exact ⟨ev, hp2, cn, fs, (I1.back I2 k2).1, ExR.up er, h2⟩
  cases es with
  | nil =>
    obtain rfl := hnil rfl
    refine PE.imp (pe_callG0 F hr hX.gd g hm' hk hb' hv hX.passes d1) fun σ H Q h => ?_
    obtain ⟨ev, hp, I, q⟩ := key σ H Q h
    exact q [] H I (KE.refl _) .nil
  | cons e es => exact PE.imp (pe_callG F hr hX.gd g hm' hk hb' hv hX.passes hA d1 (star_of (pl e List.mem_cons_self)) (stars_of fun e he => pl e (List.mem_cons_of_mem _ he))) key
theorem e_call (hX : XOk c X C cl co EX) {f : Str} {l : List Ex} {es : List Expr} {q pos : Pos} (hg : glB c f = true) (hf : f ∈ c.fs) (pl : ∀ e ∈ es, plainE e = true) (hnil : es = [] → l = []) (hA : PA X es (liftA C (fun ev hp Q => was cl co l ev hp Q (EX ev)))) :
    PE X (.Call (.Name f q) es [] pos) (liftE C (wE cl co EX (.call f l))) :=
  e_callG hX (dv := []) (fun ev hp Q E h => by simp only [wr] at h; simpa only [List.append_nil] using h) hg hf (.inl rfl) pl hnil hA
theorem e_calld (hX : XOk c X C cl co EX) {f : Str} {l : List Ex} {dv : List D} {es : List Expr} {q pos : Pos} (hg : glB c f = true) (hf : f ∈ c.fs) (hd : hasDf c f dv = true) (pl : ∀ e ∈ es, plainE e = true) (hnil : es = [] → l = []) (hA : PA X es (liftA C (fun ev hp Q => was cl co l ev hp Q (EX ev)))) :
    PE X (.Call (.Name f q) es [] pos) (liftE C (wE cl co EX (.calld f l dv))) :=
  e_callG hX (dv := dv) (fun ev hp Q E h => by simpa only [wr] using h) hg hf (.inr (hasDf_mem hd)) pl hnil hA
end
end Mi

namespace Mi
open PySem PySem.Spec PyProof.Rows L2

/-! ### slots -/
/-- a value comes to a slot -/
theorem I3.setD {C : BC} {p : Pt} (I : I3 C p) {i : Nat} {x : D} {v : V} (r : RepP C p x v) (hn : ∀ l, p.ev[i]? ≠ some (some (.ol l))) :
    I3 C { p with ev := p.ev.set i (some (.d x)), st := p.st.set i (some v) } ∧ ∀ a, Pt.own { p with ev := p.ev.set i (some (.d x)), st := p.st.set i (some v) } a ↔ p.own a := by
  have own1 : ∀ a, Pt.own { p with ev := p.ev.set i (some (.d x)), st := p.st.set i (some v) } a ↔ p.own a := fun a => by
    constructor
    · rintro ⟨j, l, e1, e2⟩
      have e1' : (p.ev.set i (some (.d x)))[j]? = some (some (.ol l)) := e1
      have e2' : (p.st.set i (some v))[j]? = some (some (.ref a)) := e2
      by_cases hj : i = j
      · subst hj
        rw [List.getElem?_set_self'] at e1'
        cases h : p.ev[i]? with
        | none => rw [h] at e1'; cases e1'
        | some y => rw [h] at e1'; cases e1'
      · rw [List.getElem?_set_ne hj] at e1' e2'
        exact ⟨j, l, e1', e2'⟩
    · rintro ⟨j, l, e1, e2⟩
      have hj : i ≠ j := fun h => hn l (by rw [h]; exact e1)
      exact ⟨j, l, by show (p.ev.set i _)[j]? = _; rw [List.getElem?_set_ne hj]; exact e1, by show (p.st.set i _)[j]? = _; rw [List.getElem?_set_ne hj]; exact e2⟩
  have fb : Fb C { p with ev := p.ev.set i (some (.d x)), st := p.st.set i (some v) } = Fb C p := by
    funext a
    unfold Fb
    rw [propext (own1 a)]
  have kB : ∀ {y : SV} {u : V}, RepB C p y u → RepB C { p with ev := p.ev.set i (some (.d x)), st := p.st.set i (some v) } y u := by
    rintro (y | l | l) u h
    · show Rep C.K C.mg p.H (Fb C _) y u
      rw [fb]; exact h
    · obtain ⟨a, vs, e, h1, h2, h3, h4⟩ := h
      refine ⟨a, vs, e, h1, h2, h3, ?_⟩
      show Reps C.K C.mg p.H (Fb C _) l vs
      rw [fb]; exact h4
    · exact h
  refine ⟨⟨by show (p.ev.set i _).length = (p.st.set i _).length; rw [List.length_set, List.length_set]; exact I.len, fun j y e => ?_, fun a o e => ?_, fun a g => ?_, fun j k l m a e1 e2 e3 e4 => ?_, fun a o e f => ?_, I.up, fun a h => I.on a ((own1 a).mp h)⟩, own1⟩
  · have e' : (p.ev.set i (some (.d x)))[j]? = some (some y) := e
    by_cases hj : i = j
    · subst hj
      rw [List.getElem?_set_self'] at e'
      cases h : p.ev[i]? with
      | none => rw [h] at e'; cases e'
      | some z =>
        rw [h] at e'; cases e'
        have hl : i < p.st.length := by rw [← I.len]; exact (List.getElem?_eq_some_iff.mp h).1
        refine ⟨v, ?_, kB (y := .d x) r⟩
        show (p.st.set i (some v))[i]? = _
        rw [List.getElem?_set_self hl]
    · rw [List.getElem?_set_ne hj] at e'
      obtain ⟨u, e2, q⟩ := I.slot j y e'
      exact ⟨u, by show (p.st.set i _)[j]? = _; rw [List.getElem?_set_ne hj]; exact e2, kB q⟩
  · obtain ⟨u, e2, q⟩ := I.heap a o e
    refine ⟨u, e2, ?_⟩
    show RepM C.K C.mg C.pw p.H (Fb C _) a o u
    rw [fb]; exact q
  · obtain ⟨h1, h2, h3⟩ := I.g a g
    exact ⟨h1, h2, fun z => h3 ((own1 a).mp z)⟩
  · have e1' : (p.ev.set i (some (.d x)))[j]? = some (some (.ol l)) := e1
    have e2' : (p.ev.set i (some (.d x)))[k]? = some (some (.ol m)) := e2
    have e3' : (p.st.set i (some v))[j]? = some (some (.ref a)) := e3
    have e4' : (p.st.set i (some v))[k]? = some (some (.ref a)) := e4
    have ne : ∀ {n : Nat} {l : List D}, (p.ev.set i (some (.d x)))[n]? = some (some (.ol l)) → i ≠ n := fun {n l} e h => by
      subst h
      rw [List.getElem?_set_self'] at e
      cases h : p.ev[i]? with
      | none => rw [h] at e; cases e
      | some z => rw [h] at e; cases e
    have n1 := ne e1'
    have n2 := ne e2'
    rw [List.getElem?_set_ne n1] at e1' e3'
    rw [List.getElem?_set_ne n2] at e2' e4'
    exact I.uniq j k l m a e1' e2' e3' e4'
  · obtain ⟨h1, h2, h3⟩ := I.kp a o e f
    exact ⟨h1, h2, fun z => h3 ((own1 a).mp z)⟩
/-- a slot is forgotten -/
theorem I3.wipe1 {C : BC} {p : Pt} (I : I3 C p) {i : Nat} (hn : ∀ l, p.ev[i]? ≠ some (some (.ol l))) :
    I3 C { p with ev := p.ev.set i none, st := p.st.set i none } ∧ ∀ a, Pt.own { p with ev := p.ev.set i none, st := p.st.set i none } a ↔ p.own a := by
  have own1 : ∀ a, Pt.own { p with ev := p.ev.set i none, st := p.st.set i none } a ↔ p.own a := fun a => by
    constructor
    · rintro ⟨j, l, e1, e2⟩
      have e1' : (p.ev.set i none)[j]? = some (some (.ol l)) := e1
      have e2' : (p.st.set i none)[j]? = some (some (.ref a)) := e2
      by_cases hj : i = j
      · subst hj
        rw [List.getElem?_set_self'] at e1'
        cases h : p.ev[i]? with
        | none => rw [h] at e1'; cases e1'
        | some y => rw [h] at e1'; cases e1'
      · rw [List.getElem?_set_ne hj] at e1' e2'
        exact ⟨j, l, e1', e2'⟩
    · rintro ⟨j, l, e1, e2⟩
      have hj : i ≠ j := fun h => hn l (by rw [h]; exact e1)
      exact ⟨j, l, by show (p.ev.set i _)[j]? = _; rw [List.getElem?_set_ne hj]; exact e1, by show (p.st.set i _)[j]? = _; rw [List.getElem?_set_ne hj]; exact e2⟩
  have fb : Fb C { p with ev := p.ev.set i none, st := p.st.set i none } = Fb C p := by
    funext a
    unfold Fb
    rw [propext (own1 a)]
  have kB : ∀ {y : SV} {u : V}, RepB C p y u → RepB C { p with ev := p.ev.set i none, st := p.st.set i none } y u := by
    rintro (y | l | l) u h
    · show Rep C.K C.mg p.H (Fb C _) y u
      rw [fb]; exact h
    · obtain ⟨a, vs, e, h1, h2, h3, h4⟩ := h
      refine ⟨a, vs, e, h1, h2, h3, ?_⟩
      show Reps C.K C.mg p.H (Fb C _) l vs
      rw [fb]; exact h4
    · exact h
  have ne : ∀ {n : Nat} {y : SV}, (p.ev.set i none)[n]? = some (some y) → i ≠ n := fun {n l} e h => by
    subst h
    rw [List.getElem?_set_self'] at e
    cases h : p.ev[i]? with
    | none => rw [h] at e; cases e
    | some z => rw [h] at e; cases e
  refine ⟨⟨by show (p.ev.set i _).length = (p.st.set i _).length; rw [List.length_set, List.length_set]; exact I.len, fun j y e => ?_, fun a o e => ?_, fun a g => ?_, fun j k l m a e1 e2 e3 e4 => ?_, fun a o e f => ?_, I.up, fun a h => I.on a ((own1 a).mp h)⟩, own1⟩
  · have e' : (p.ev.set i none)[j]? = some (some y) := e
    have hj := ne e'
    rw [List.getElem?_set_ne hj] at e'
    obtain ⟨u, e2, q⟩ := I.slot j y e'
    exact ⟨u, by show (p.st.set i _)[j]? = _; rw [List.getElem?_set_ne hj]; exact e2, kB q⟩
  · obtain ⟨u, e2, q⟩ := I.heap a o e
    refine ⟨u, e2, ?_⟩
    show RepM C.K C.mg C.pw p.H (Fb C _) a o u
    rw [fb]; exact q
  · obtain ⟨h1, h2, h3⟩ := I.g a g
    exact ⟨h1, h2, fun z => h3 ((own1 a).mp z)⟩
  · have e1' : (p.ev.set i none)[j]? = some (some (.ol l)) := e1
    have e2' : (p.ev.set i none)[k]? = some (some (.ol m)) := e2
    have e3' : (p.st.set i none)[j]? = some (some (.ref a)) := e3
    have e4' : (p.st.set i none)[k]? = some (some (.ref a)) := e4
    have n1 := ne e1'
    have n2 := ne e2'
    rw [List.getElem?_set_ne n1] at e1' e3'
    rw [List.getElem?_set_ne n2] at e2' e4'
    exact I.uniq j k l m a e1' e2' e3' e4'
  · obtain ⟨h1, h2, h3⟩ := I.kp a o e f
    exact ⟨h1, h2, fun z => h3 ((own1 a).mp z)⟩
end Mi

namespace Mi
open PySem PySem.Spec PyProof.Rows L2

theorem noOl_at {ev : Ev} {own : List Nat} (h : noOl ev own = true) {i : Nat} (hi : i ∈ own) : ∀ l, ev[i]? ≠ some (some (.ol l)) := by
  intro l e
  have q := List.all_eq_true.mp h i hi
  rw [e] at q
  cases q
/-- slots of a block's own are forgotten -/
theorem I3.wipeN {C : BC} {p : Pt} (I : I3 C p) : ∀ {own : List Nat}, noOl p.ev own = true → I3 C { p with ev := wipeD p.ev own, st := wipe p.st own } ∧ (∀ a, Pt.own { p with ev := wipeD p.ev own, st := wipe p.st own } a ↔ p.own a) ∧ ∀ (i : Nat) (l : List D), p.ev[i]? ≠ some (some (.ol l)) → (wipeD p.ev own)[i]? ≠ some (some (.ol l))
  | [], _ => ⟨I, fun _ => Iff.rfl, fun _ _ h => h⟩
  | i :: is, h => by
    have h2 : noOl p.ev is = true := List.all_eq_true.mpr fun j hj => List.all_eq_true.mp h j (List.mem_cons_of_mem _ hj)
    obtain ⟨I1, o1, w1⟩ := I.wipeN h2
    have hn : ∀ l, (wipeD p.ev is)[i]? ≠ some (some (.ol l)) := fun l => w1 i l (noOl_at h List.mem_cons_self l)
    obtain ⟨I2, o2⟩ := I3.wipe1 I1 (i := i) hn
    refine ⟨I2, fun a => (o2 a).trans (o1 a), fun j l hj e => ?_⟩
    have e' : ((wipeD p.ev is).set i none)[j]? = some (some (.ol l)) := e
    by_cases hij : i = j
    · subst hij
      rw [List.getElem?_set_self'] at e'
      cases hh : (wipeD p.ev is)[i]? with
      | none => rw [hh] at e'; cases e'
      | some y => rw [hh] at e'; cases e'
    · rw [List.getElem?_set_ne hij] at e'
      exact w1 j l hj e'
theorem wipe_set {i : Nat} {v : Option V} : ∀ {own : List Nat} {τ : L2.St}, i ∈ own → wipe (τ.set i v) own = wipe τ own
  | j :: own, τ, h => by
    show (wipe (τ.set i v) own).set j none = (wipe τ own).set j none
    by_cases hm : i ∈ own
    · rw [wipe_set hm]
    · have hij : i = j := (List.mem_cons.mp h).resolve_right hm
      subst hij
      have e : ∀ {own : List Nat} {τ : L2.St}, i ∉ own → (wipe (τ.set i v) own).set i none = (wipe τ own).set i none := by
        intro own
        induction own with
        | nil => intro τ _; show (τ.set i v).set i none = τ.set i none; rw [List.set_set]
        | cons k ks ih =>
          intro τ hk
          have hki : k ≠ i := fun e => hk (by rw [e]; exact List.mem_cons_self)
          have hks : i ∉ ks := fun e => hk (List.mem_cons_of_mem _ e)
          show ((wipe (τ.set i v) ks).set k none).set i none = ((wipe τ ks).set k none).set i none
          rw [List.set_comm _ _ hki, List.set_comm _ _ hki, ih hks]
      exact e hm
theorem wipe_comm {i : Nat} : ∀ {own : List Nat} {τ : L2.St}, wipe (τ.set i none) own = (wipe τ own).set i none
  | [], _ => rfl
  | k :: ks, τ => by
    show (wipe (τ.set i none) ks).set k none = ((wipe τ ks).set k none).set i none
    rw [wipe_comm]
    by_cases h : i = k
    · rw [h]
    · rw [List.set_comm _ _ h]
theorem wipe_idem : ∀ {own : List Nat} {τ : L2.St}, wipe (wipe τ own) own = wipe τ own
  | [], _ => rfl
  | i :: is, τ => by
    show (wipe ((wipe τ is).set i none) is).set i none = (wipe τ is).set i none
    rw [wipe_comm, wipe_idem, List.set_set]
def setSt : List Nat → List V → L2.St → L2.St
  | i :: is, v :: vs, σ => setSt is vs (σ.set i (some v))
  | _, _, σ => σ
theorem setSt_wipe : ∀ {is : List Nat} {vs : List V} {own : List Nat} {τ : L2.St}, (∀ i ∈ is, i ∈ own) → wipe (setSt is vs τ) own = wipe τ own
  | [], _, _, _, _ => by simp [setSt]
  | i :: is, [], _, _, _ => by simp [setSt]
  | i :: is, v :: vs, own, τ, h => by
    show wipe (setSt is vs (τ.set i (some v))) own = _
    rw [setSt_wipe fun j hj => h j (List.mem_cons_of_mem _ hj), wipe_set (h i List.mem_cons_self)]
theorem I3.setAll {C : BC} : ∀ {is : List Nat} {ds : List D} {vs : List V} {p : Pt} {ev' : Ev}, I3 C p → RepsP C p ds vs → (∀ i ∈ is, ∀ l, p.ev[i]? ≠ some (some (.ol l))) → Mi.setAll is ds p.ev = some ev' →
    is.length = vs.length ∧ I3 C { p with ev := ev', st := setSt is vs p.st } ∧ ∀ a, Pt.own { p with ev := ev', st := setSt is vs p.st } a ↔ p.own a
  | [], [], _, p, ev', I, .nil, _, h => by
    simp only [Mi.setAll] at h
    cases h
    exact ⟨rfl, I, fun _ => Iff.rfl⟩
  | i :: is, d :: ds, _, p, ev', I, .cons (v := v) (vs := vs) r t, hn, h => by
    simp only [Mi.setAll] at h
    obtain ⟨I1, o1⟩ := I.setD (i := i) r (hn i List.mem_cons_self)
    have fb : Fb C { p with ev := p.ev.set i (some (.d d)), st := p.st.set i (some v) } = Fb C p := by
      funext a; unfold Fb; rw [propext (o1 a)]
    have t1 : RepsP C { p with ev := p.ev.set i (some (.d d)), st := p.st.set i (some v) } ds vs := by
      show Reps C.K C.mg p.H (Fb C _) ds vs
      rw [fb]; exact t
    have n1 : ∀ j ∈ is, ∀ l, (p.ev.set i (some (.d d)))[j]? ≠ some (some (.ol l)) := fun j hj l e => by
      by_cases hij : i = j
      · subst hij
        rw [List.getElem?_set_self'] at e
        cases hh : p.ev[i]? with
        | none => rw [hh] at e; cases e
        | some y => rw [hh] at e; cases e
      · rw [List.getElem?_set_ne hij] at e
        exact hn j (List.mem_cons_of_mem _ hj) l e
    obtain ⟨h1, h2, h3⟩ := I3.setAll I1 t1 n1 h
    exact ⟨by simp [h1], h2, fun a => (h3 a).trans (o1 a)⟩
  | [], _ :: _, _, _, _, _, _, _, h => by simp [Mi.setAll] at h
  | _ :: _, [], _, _, _, _, _, _, h => by simp [Mi.setAll] at h

/-! ### targets of names -/
def gNames : List Nat → TGs
  | [] => gNil
  | i :: is => gCons (gName i) (gNames is)
theorem gNames_run : ∀ {is : List Nat} {vs : List V} {σ : L2.St} {H : Hp} {Q : L2.St → Hp → Prop}, is.length = vs.length → Q (setSt is vs σ) H → gNames is vs σ H Q
  | [], [], _, _, _, _, q => ⟨rfl, q⟩
  | i :: is, v :: vs, σ, H, Q, h, q => ⟨v, vs, rfl, gNames_run (by simpa using h) q⟩
section
variable {c : Ctx} {X : Cx}
structure TgX (c : Ctx) (X : Cx) : Prop where
  N : X.N = c.N
  nd : X.N.Nodup
  sc : X.env.scope = c.sc
  calm : X.calm = true
  fnc : c.top = true → ∀ x, X.fn x = true
theorem pg_tg (hX : TgX c X) {i : Nat} {e : Expr} (h : tgB c i e = true) : PG X e (gName i) := by
  cases e with
  | Name x pos =>
    simp only [tgB, Bool.and_eq_true, decide_eq_true_eq] at h
    obtain ⟨h1, h2⟩ := h
    have hi : X.N[i]? = some x := by rw [hX.N]; exact h1
    split at h2
    · rename_i e
      have e' : X.env.scope.names.lookup x = some .local := by rw [hX.sc]; exact e
      exact pg_name hX.nd hi (.inl e') (.inr e')
    · rename_i e
      have e' : X.env.scope.names.lookup x = some .cell := by rw [hX.sc]; exact e
      exact pg_name hX.nd hi (.inr e') (.inl (hX.fnc h2 x))
    · cases h2
  | _ => simp [tgB] at h
theorem tgs_each (hX : TgX c X) : ∀ {is : List Nat} {es : List Expr}, tgsB c is es = true → PGs X es (gNames is) ∧ (assignEach es X.env).length = is.length ∧ (assignEach es X.env).findIdx? (·.1) = none
  | [], [], _ => ⟨pgs_nil, rfl, rfl⟩
  | i :: is, e :: es, h => by
    simp only [tgsB, Bool.and_eq_true] at h
    obtain ⟨h1, h2, h3⟩ := tgs_each hX h.2
    have hp := pg_tg hX h.1
    cases e with
    | Name x pos =>
      refine ⟨pgs_cons hp h1 rfl, by show (assignEach es X.env).length + 1 = _; rw [h2]; rfl, ?_⟩
      show List.findIdx? _ ((false, _) :: assignEach es X.env) = none
      rw [List.findIdx?_cons, h3]; rfl
    | _ => simp [tgB] at h
  | [], _ :: _, h => by simp [tgsB] at h
  | _ :: _, [], h => by simp [tgsB] at h
/-- a comprehension's target: its reading -/
def gTg (K : PySem.W.Frag) (tg : List Nat) : TG := match tg with
  | [i] => gName i
  | tg => gTup K tg.length (gNames tg)
theorem pg_tgt (hX : TgX c X) {tg : List Nat} {e : Expr} (h : tgtB c tg e = true) : PG X e (gTg X.K tg) := by
  unfold tgtB at h
  split at h
  · exact pg_tg hX h
  · rename_i hne
    split at h
    · rename_i es k pos
      obtain ⟨h1, h2, h3⟩ := tgs_each hX h
      have hg : gTg X.K tg = gTup X.K tg.length (gNames tg) := by
        unfold gTg
        split
        · rename_i i
          exact (hne i rfl).elim
        · rfl
      rw [hg]
      exact pg_tup hX.calm h1 h2 h3
    · cases h
end
/-- a value comes to a comprehension's target -/
theorem tg_run {C : BC} {K : PySem.W.Frag} (hK : C.K = K) {tg : List Nat} {x : D} {v : V} {p : Pt} {ev' : Ev} (I : I3 C p) (r : RepP C p x v) (hn : ∀ i ∈ tg, ∀ l, p.ev[i]? ≠ some (some (.ol l))) (h : tgSet tg x p.ev = some ev') :
    ∃ σ', I3 C { p with ev := ev', st := σ' } ∧ (∀ a, Pt.own { p with ev := ev', st := σ' } a ↔ p.own a) ∧ (∀ own, (∀ i ∈ tg, i ∈ own) → wipe σ' own = wipe p.st own) ∧ ∀ Q : L2.St → Hp → Prop, Q σ' p.H → gTg K tg v p.st p.H Q := by
  unfold tgSet at h
  split at h
  · rename_i i
    cases h
    obtain ⟨I1, o1⟩ := I.setD (i := i) r (hn i List.mem_cons_self)
    exact ⟨_, I1, o1, fun own ho => wipe_set (ho i List.mem_cons_self), fun Q q => q⟩
  · rename_i hne
    split at h
    · rename_i ds
      obtain ⟨a, vs, rfl, n, t⟩ := RepB.tup (show RepB C p (.d (.tup ds)) v from r)
      obtain ⟨h1, h2, h3⟩ := I3.setAll I t hn h
      refine ⟨_, h2, h3, fun own ho => setSt_wipe ho, fun Q q => ?_⟩
      have hg : gTg K tg = gTup K tg.length (gNames tg) := by
        unfold gTg
        split
        · rename_i i
          exact (hne i rfl).elim
        · rfl
      rw [hg]
      exact ⟨a, vs, rfl, by rw [← hK]; exact n.sq, h1.symm, gNames_run h1 q⟩
    · cases h
end Mi

namespace Mi
open PySem PySem.Spec PyProof.Rows L2
section
variable {c : Ctx} {X : Cx} {C : BC} {cl : CallT} {co : ConT} {EX : Ev → EK}
abbrev noX : Ev → EK := fun _ => noE
theorem XOk.tg (hX : XOk c X C cl co EX) : TgX c X := ⟨hX.N, hX.nd, hX.sc, hX.calm, hX.fnc⟩
/-- a comprehension's block -/
theorem XOk.blk (hX : XOk c X C cl co EX) (scope : Scope) (s : Shared) (H : Hp) (Ca : Addr) (ce : List (Str × Addr)) (fp : List Addr) :
    XOk (relC c scope) (X.blk s H scope (compEnvC scope ce Ca X.env) fp) C cl co noX where
  N := hX.N
  nd := hX.nd
  sc := by
    show relabel scope X.env = relS scope c.sc
    rw [← hX.sc]; rfl
  calm := hX.calm
  K := hX.K
  mg := hX.mg
  pw := hX.pw
  hu := hX.hu
  gd := hX.gd
  bi := hX.bi
  cm := hX.cm
  fn := fun f hf => (hX.fn f hf).ex.elim fun k h => ⟨k, h⟩
  con := hX.con
  tb := hX.tb
  pass := PassesOwn.never
  fnc := fun z => by cases z
  tk := fun u s' ⟨_, _, _, _, _, _, _, _, _, _, _, _, _, _, _, _, w⟩ => by
    obtain ⟨_, _, _, _, _, _, z⟩ := w
    exact z.elim
  cls := hX.cls
  rm := hX.rm
  tops := fun z => by cases z
theorem own_getD {N : List Str} {own : List Nat} : (own.map fun i => (N.getD i (default : Str), i)).map (·.2) = own := by
  rw [List.map_map]
  show own.map id = own
  exact List.map_id own
theorem PE.any {ι : Type} {X : Cx} {e : Expr} {p : ι → Prop} {t : ι → TE} (h : ∀ i, p i → PE X e (t i)) : PE X e (fun σ H Q => ∃ i, p i ∧ t i σ H Q) := ⟨fun pins s σ H Q I ⟨i, hi, q⟩ => (h i hi).run pins s σ H Q I q⟩
theorem PTs.any {ι : Type} {X : Cx} {e : List Expr} {p : ι → Prop} {t : ι → TT} (h : ∀ i, p i → PTs X e (t i)) : PTs X e (fun σ H Q => ∃ i, p i ∧ t i σ H Q) := ⟨fun pins s σ H Q I ⟨i, hi, q⟩ => (h i hi).run pins s σ H Q I q⟩
theorem wipeD_ol {ev : Ev} {i : Nat} : ∀ {own : List Nat}, i ∈ own → ∀ l, (wipeD ev own)[i]? ≠ some (some (.ol l))
  | j :: own, h, l, e => by
    have e' : ((wipeD ev own).set j none)[i]? = some (some (.ol l)) := e
    by_cases hij : j = i
    · subst hij
      rw [List.getElem?_set_self'] at e'
      cases hh : (wipeD ev own)[j]? with
      | none => rw [hh] at e'; cases e'
      | some y => rw [hh] at e'; cases e'
    · rw [List.getElem?_set_ne hij] at e'
      exact wipeD_ol ((List.mem_cons.mp h).resolve_left fun z => hij z.symm) l e'
/-- a comprehension: what is walked, the target, the test, the element -/
theorem e_compR (hX : XOk c X C cl co EX) {m t : Ex} {tg own : List Nat} {it : It} {elt tge iter : Expr} {ifs : List Expr} {scope : Scope} {pos : Pos}
    (hb : blkC c.N c.sc scope (own.map fun i => (c.N.getD i (default : Str), i)) = true) (htg : tgtB (relC c scope) tg tge = true) (hsub : ∀ i ∈ tg, i ∈ own)
    (hi : PI X tge iter (liftI true C (fun ev hp Q => wi cl co it true ev hp Q (EX ev)))) (hfold : ∀ x, foldedSetIterable iter X.env x = pure x)
    (ht : ∀ X' C', XOk (relC c scope) X' C' cl co noX → PTs X' ifs (liftT C' (wE cl co noX t)))
    (he : ∀ X' C', XOk (relC c scope) X' C' cl co noX → PE X' elt (liftE C' (wE cl co noX m))) :
    ∃ t0 : TE, (∀ σ H Q, liftE C (wE cl co EX (.comp m tg it t own)) σ H Q → t0 σ H Q) ∧ PE X (.ListComp elt [⟨tge, iter, ifs, 0⟩] scope pos) t0 ∧
      ∀ {i : Nat} {y : Str} {py spos : Pos}, X.N[i]? = some y → X.env.scope.names.lookup y = some .local → swapsWith (.ListComp elt [⟨tge, iter, ifs, 0⟩] scope pos) (some (.Name y py)) spos.line X.env = pure true →
        PS X (.Assign [.Name y py] (.ListComp elt [⟨tge, iter, ifs, 0⟩] scope pos) spos) (tAsg t0 (gName i)) := by
  have ok : BlkOk X.N X.env.scope scope (own.map fun i => (c.N.getD i (default : Str), i)) := blkOk_by (by rw [hX.N, hX.sc]; exact hb)
  have hXG : ∀ D s H Ca ce fp, XOk (relC c scope) (X.blk s H scope (compEnvC scope ce Ca X.env) fp) (C.wG D) cl co noX := fun D s H Ca ce fp => by
    have z := hX.blk scope s H Ca ce fp
    refine ⟨z.N, z.nd, z.sc, z.calm, z.K, z.mg, z.pw, z.hu, z.gd, z.bi, z.cm, fun f hf => (z.fn f hf).ex.elim fun k h => ⟨k, h⟩, z.con, z.tb, z.pass, z.fnc, ?_, z.cls, z.rm, z.tops⟩
    rintro u s' ⟨_, _, _, _, _, _, _, _, _, _, _, _, _, _, _, _, w⟩
    obtain ⟨_, _, _, _, _, _, z⟩ := w
    exact z.elim
  have hg : ∀ (s : Shared) (H : Hp) (Ca : Addr) (ce : List (Str × Addr)) (fp : List Addr), PG (X.blk s H scope (compEnvC scope ce Ca X.env) fp) tge (gTg X.K tg) := fun s H Ca ce fp =>
    pg_tgt (X := X.blk s H scope (compEnvC scope ce Ca X.env) fp) (hX.blk scope s H Ca ce fp).tg htg
  have hts : ∀ (s : Shared) (H : Hp) (Ca : Addr) (ce : List (Str × Addr)) (fp : List Addr), PTs (X.blk s H scope (compEnvC scope ce Ca X.env) fp) ifs (fun σ H Q => ∃ D, True ∧ liftT (C.wG D) (wE cl co noX t) σ H Q) := fun s H Ca ce fp =>
    PTs.any fun D _ => ht _ _ (hXG D s H Ca ce fp)
  have hes : ∀ (s : Shared) (H : Hp) (Ca : Addr) (ce : List (Str × Addr)) (fp : List Addr), PE (X.blk s H scope (compEnvC scope ce Ca X.env) fp) elt (fun σ H Q => ∃ D, True ∧ liftE (C.wG D) (wE cl co noX m) σ H Q) := fun s H Ca ce fp =>
    PE.any fun D _ => he _ _ (hXG D s H Ca ce fp)
  refine ⟨_, fun σ H Q ⟨ev, hp, I, h⟩ => ?_, pe_lc hX.calm hX.nd hi ok hg hts hes hfold, fun hi' hl hsw => ps_setLc hX.calm hX.nd hi' hl hsw hi ok hg hts hes hfold⟩
  rw [own_getD]
  simp only [wE, wr] at h
  obtain ⟨hno, h⟩ := h
  refine ⟨ev, hp, I, wi_mono hX.cm it true ev hp _ _ _ _ ?_ (fun _ _ _ z => z) h⟩
  intro s hp1 h1 J H1 I1 k1 w1 g1 D hD
  have hD0 : C.H0 D = none := I1.up D hD
  -- a turn's point: D holds the values made so far
  let T : Nat → Hp → Prop := fun i H' => ∃ hp' acc vs k, I3 (C.wG D) ⟨ev, σ, hp', H'⟩ ∧ KE ⟨ev, σ, hp1, H1⟩ ⟨ev, σ, hp', H'⟩ ∧ H' D = some (.lst vs) ∧ RepsP (C.wG D) ⟨ev, σ, hp', H'⟩ acc vs ∧
      (∀ a hp'', k a hp'' → cont C ⟨ev, σ, hp, H⟩ Q (.ol a) hp'') ∧ compL (fun x hp k => onSome (tgSet tg x (wipeD ev own)) fun ev' => wr cl co t ev' hp (truK fun b hp => if b = true then wr cl co m ev' hp (valK fun y hp => k (some y) hp) noE else k none hp) noE) s.g (s.l.drop i) acc hp' k
  have kD : KE ⟨ev, σ, hp1, H1⟩ ⟨ev, σ, hp1, upd H1 D (.lst [])⟩ := (I1.laid (o := .lst []) hD).2
  refine ⟨fun i n H' => n + i = s.l.length ∧ T i H', ⟨s.l.length, rfl, hp1, [], [], _, (I1.inG hD).1, kD, upd_same, .nil, fun a hp'' z => z, h1⟩, ?_⟩
  rintro i n H' ⟨en, hp', acc, vs, k, I', k', eD, ra, hk, hl⟩
  have nD : hp' D = none := (I'.g D (.inl rfl)).2.1
  obtain ⟨IC', kpC'⟩ := I'.outG
  cases hx : s.l[i]? with
  | none =>
    have hle : s.l.length ≤ i := List.getElem?_eq_none_iff.mp hx
    rw [List.drop_eq_nil_of_le hle] at hl
    obtain ⟨hg, hl⟩ := hl
    refine .inl ⟨w1.stop C _ i (CLe.refl _ _) IC' k' hg hle, ?_⟩
    refine hk _ _ hl (.ref D) H' IC' (k1.trans k') ?_ (fun b e => ?_)
    · exact ⟨D, vs, rfl, eD, nD, (I1.fresh_free hD).2.2, Reps.keep kpC' ra⟩
    · cases e
      exact ⟨k1.up D hD, I', vs, eD, ra⟩
  | some x =>
    have hi : i < s.l.length := (List.getElem?_eq_some_iff.mp hx).1
    have hdrop : s.l.drop i = x :: s.l.drop (i + 1) := by
      rw [List.drop_eq_getElem_cons hi]
      congr 1
      rw [List.getElem?_eq_getElem hi] at hx
      exact Option.some.inj hx
    rw [hdrop] at hl
    obtain ⟨hg, hl⟩ := hl
    have cle : CLe ⟨ev, σ, hp1, H1⟩ C (C.wG D) := ⟨rfl, rfl, fun a o e z w => w.elim (fun w => ne_of_none e hD w) z⟩
    obtain ⟨hgo, hy⟩ := w1.go _ _ i x cle I' k' hg hx
    refine .inr ⟨hgo, fun H2 => T (i + 1) H2, fun H2 hT => ⟨n - 1, by omega, by omega, hT⟩, ?_⟩
    intro v H3 hyl
    obtain ⟨I4, k4, rx⟩ := hy v H3 hyl
    obtain ⟨ev', he', hl⟩ := onSome_iff.mp hl
    obtain ⟨I5, o5, _⟩ := I4.wipeN (own := own) hno
    have fb5 : Fb (C.wG D) ⟨wipeD ev own, wipe σ own, hp', H3⟩ = Fb (C.wG D) ⟨ev, σ, hp', H3⟩ := by
      funext a; unfold Fb; rw [propext (o5 a)]
    have r5 : RepP (C.wG D) ⟨wipeD ev own, wipe σ own, hp', H3⟩ x v := by
      show Rep C.K C.mg H3 (Fb (C.wG D) _) x v
      rw [fb5]; exact rx
    have hn5 : ∀ i ∈ tg, ∀ l, (wipeD ev own)[i]? ≠ some (some (.ol l)) := fun i hi l => wipeD_ol (hsub i hi) l
    obtain ⟨σ', I6, o6, ws6, run6⟩ := tg_run (C := C.wG D) (K := X.K) (p := ⟨wipeD ev own, wipe σ own, hp', H3⟩) hX.K I5 r5 hn5 he'
    have o7 : ∀ {hq Hq} a, Pt.own ⟨ev', σ', hq, Hq⟩ a ↔ Pt.own ⟨ev, σ, hq, Hq⟩ a := fun a => (o6 a).trans (o5 a)
    have fb7 : ∀ {hq Hq}, Fb (C.wG D) ⟨ev', σ', hq, Hq⟩ = Fb (C.wG D) ⟨ev, σ, hq, Hq⟩ := by
      intro hq Hq
      funext a; unfold Fb; rw [propext (o7 a)]
    have back : ∀ {hq Hq}, I3 (C.wG D) ⟨ev', σ', hq, Hq⟩ → KE ⟨ev', σ', hp', H3⟩ ⟨ev', σ', hq, Hq⟩ → I3 (C.wG D) ⟨ev, σ, hq, Hq⟩ ∧ KE ⟨ev, σ, hp', H'⟩ ⟨ev, σ, hq, Hq⟩ := by
      intro hq Hq Iq kq
      have kk : KE ⟨ev, σ, hp', H3⟩ ⟨ev, σ, hq, Hq⟩ := ⟨rfl, rfl, kq.3, kq.4⟩
      refine ⟨I4.step kk fun a o e => ?_, k4.trans kk⟩
      obtain ⟨u, e2, q⟩ := Iq.heap a o e
      refine ⟨u, e2, ?_⟩
      have q' : RepM C.K C.mg C.pw Hq (Fb (C.wG D) ⟨ev', σ', hq, Hq⟩) a o u := q
      rw [fb7] at q'
      exact q'
    refine run6 _ ⟨by rw [ws6 own hsub]; exact wipe_idem, ?_⟩
    refine ⟨D, trivial, ev', hp', I6, wr_mono hX.cm t ev' hp' _ _ _ _ (truK_mono fun b hp6 h6 H6 I7 k7 => ?_) (fun _ _ _ z => z) hl⟩
    cases b with
    | false =>
      rw [if_neg Bool.false_ne_true] at h6 ⊢
      obtain ⟨I8, k8⟩ := back I7 k7
      have e8 := (k8.3 D _ eD nD).1
      exact ⟨hp6, acc, vs, k, I8, k'.trans k8, e8, ra.ke k8, hk, h6⟩
    | true =>
      rw [if_pos rfl] at h6 ⊢
      refine ⟨D, trivial, ev', hp6, I7, wr_mono hX.cm m ev' hp6 _ _ _ _ (valK_cont I7 fun d hp8 h8 w H8 I9 k9 r9 => ?_) (fun _ _ _ z => z) h6⟩
      obtain ⟨I10, k10⟩ := back I9 (k7.trans k9)
      have e10 := (k10.3 D _ eD nD).1
      obtain ⟨hlt, h8⟩ := h8
      refine ⟨vs, e10, by rw [← ra.length]; exact hlt, ?_⟩
      obtain ⟨I11, kp11⟩ := I10.grow (u := .lst (vs ++ [w])) hD0
      have n10 : hp8 D = none := (I10.g D (.inl rfl)).2.1
      have r10 : RepP (C.wG D) ⟨ev, σ, hp8, H8⟩ d w := by
        have r9' : Rep C.K C.mg H8 (Fb (C.wG D) ⟨ev', σ', hp8, H8⟩) d w := r9
        rw [fb7] at r9'
        exact r9'
      refine ⟨hp8, acc ++ [d], vs ++ [w], k, I11, ?_, upd_same, Reps.append (Reps.keep kp11 (ra.ke k10)) (.cons (Rep.keep kp11 r10) .nil), hk, h8⟩
      have k11 := k'.trans k10
      refine ⟨rfl, rfl, fun a o e1 e2 => ?_, fun a ha => ?_⟩
      · have ne : a ≠ D := ne_of_none e1 hD
        exact ⟨by show upd H8 D _ a = some o; rw [upd_ne ne]; exact (k11.3 a o e1 e2).1, (k11.3 a o e1 e2).2⟩
      · have ha' : upd H8 D (.lst (vs ++ [w])) a = none := ha
        by_cases e : a = D
        · rw [e, upd_same] at ha'; cases ha'
        · rw [upd_ne e] at ha'; exact k11.4 a ha'
/-- a comprehension: what is walked, the target, the test, the element -/
theorem e_comp (hX : XOk c X C cl co EX) {m t : Ex} {tg own : List Nat} {it : It} {elt tge iter : Expr} {ifs : List Expr} {scope : Scope} {pos : Pos}
    (hb : blkC c.N c.sc scope (own.map fun i => (c.N.getD i (default : Str), i)) = true) (htg : tgtB (relC c scope) tg tge = true) (hsub : ∀ i ∈ tg, i ∈ own)
    (hi : PI X tge iter (liftI true C (fun ev hp Q => wi cl co it true ev hp Q (EX ev)))) (hfold : ∀ x, foldedSetIterable iter X.env x = pure x)
    (ht : ∀ X' C', XOk (relC c scope) X' C' cl co noX → PTs X' ifs (liftT C' (wE cl co noX t)))
    (he : ∀ X' C', XOk (relC c scope) X' C' cl co noX → PE X' elt (liftE C' (wE cl co noX m))) :
    PE X (.ListComp elt [⟨tge, iter, ifs, 0⟩] scope pos) (liftE C (wE cl co EX (.comp m tg it t own))) := by
  obtain ⟨t0, f, pe, _⟩ := e_compR hX hb htg hsub hi hfold ht he
  exact PE.imp pe f
end
end Mi

namespace Mi
open PySem PySem.Spec PyProof.Rows L2

structure SE (X : Cx) (C : BC) (cl : CallT) (co : ConT) (EX : Ev → EK) (m : Ex) (e : Expr) : Prop where
  pe : PE X e (liftE C (wE cl co EX m))
  pt : PT X e (liftT C (wE cl co EX m))
  pw : isBop e = true → PW X e (liftT C (wE cl co EX m))
structure SL (X : Cx) (C : BC) (cl : CallT) (co : ConT) (EX : Ev → EK) (l : List Ex) (es : List Expr) : Prop where
  pa : PA X es (liftA C (fun ev hp Q => was cl co l ev hp Q (EX ev)))
  pl : ∀ e ∈ es, plainE e = true
  nl : es = [] → l = []
section
variable {c : Ctx} {X : Cx} {C : BC} {cl : CallT} {co : ConT} {EX : Ev → EK}
theorem bopB_eq {o : BOp} {p : Operator} (h : bopB o p = true) : p = opOf o := by
  cases o <;> cases p <;> first | rfl | cases h
theorem copB_eq {o : COp} {p : CmpOp} (h : copB o p = true) : p = cOf o := by
  cases o <;> cases p <;> first | rfl | cases h
theorem nonM_eq {m : Ex} (h : nonM m = true) : m = .non := by
  cases m <;> first | rfl | cases h
theorem nonB_eq {e : Expr} (h : nonB e = true) : ∃ k p, e = .Constant .none k p := by
  unfold nonB at h
  split at h
  · exact ⟨_, _, rfl⟩
  · cases h
/-- a value that is itself -/
theorem s_con {m : Ex} {e : Expr} {d : D} {v : V} (hX : XOk c X C cl co EX) (h : PE X e (tC v)) (hw : ∀ ev hp Q E, wr cl co m ev hp Q E → Q (.d d) hp) (r : ∀ H F, Rep C.K C.mg H F d v)
    (he : ∀ whole, isTrue e X.env whole = (do let v ← whole; standAt e.pos; holding [v] (truthy v))) (hb : isBop e = false) : SE X C cl co EX m e := by
  have pe : PE X e (liftE C (wE cl co EX m)) := PE.imp h fun σ H Q ⟨ev, hp, I, q⟩ => cont.hereD I (hw _ _ _ _ q) (r _ _)
  exact ⟨pe, pt_of (wE_mono hX.cm m) pe he, fun z => by rw [hb] at z; cases z⟩
theorem s_pl {m : Ex} {e : Expr} (hX : XOk c X C cl co EX) (pe : PE X e (liftE C (wE cl co EX m)))
    (he : ∀ whole, isTrue e X.env whole = (do let v ← whole; standAt e.pos; holding [v] (truthy v))) (hb : isBop e = false) : SE X C cl co EX m e :=
  ⟨pe, pt_of (wE_mono hX.cm m) pe he, fun z => by rw [hb] at z; cases z⟩
theorem s_v (hX : XOk c X C cl co EX) {i : Nat} {e : Expr} (h : chkE c (.v i) e = true) : SE X C cl co EX (.v i) e := by
  simp only [chkE] at h
  split at h
  · simp only [Bool.and_eq_true, decide_eq_true_eq] at h
    obtain ⟨v1, v2, v3⟩ := hX.vis h.2
    refine s_pl hX (PE.imp (pe_var (i := i) (by rw [hX.N]; exact h.1) v1 v2 v3) fun σ H Q ⟨ev, hp, I, q⟩ => ?_) (fun _ => rfl) rfl
    simp only [wE, wr] at q
    obtain ⟨x, ex, q⟩ := slotK_iff.mp q
    obtain ⟨v, hv, r⟩ := I.slot i x ex
    refine ⟨v, hv, ?_⟩
    cases x with
    | d x => exact cont.hereD I q r
    | ol l => exact q.elim
    | od l => exact q.elim
  · cases h
theorem s_int (hX : XOk c X C cl co EX) {i : Int} {e : Expr} (h : chkE c (.int i) e = true) : SE X C cl co EX (.int i) e := by
  simp only [chkE] at h
  split at h
  · obtain rfl := of_decide_eq_true h
    exact s_con hX pe_int (d := .int i) (fun ev hp Q E q => by simpa only [wr] using q) (fun H F => .int i) (fun _ => rfl) rfl
  · cases h
theorem s_bl (hX : XOk c X C cl co EX) {i : Bool} {e : Expr} (h : chkE c (.bl i) e = true) : SE X C cl co EX (.bl i) e := by
  simp only [chkE] at h
  split at h
  · obtain rfl := of_decide_eq_true h
    exact s_con hX pe_bl (d := .bl i) (fun ev hp Q E q => by simpa only [wr] using q) (fun H F => .bl i) (fun _ => rfl) rfl
  · cases h
theorem s_non (hX : XOk c X C cl co EX) {e : Expr} (h : chkE c .non e = true) : SE X C cl co EX .non e := by
  simp only [chkE] at h
  split at h
  · exact s_con hX pe_non (d := .non) (fun ev hp Q E q => by simpa only [wr] using q) (fun H F => .non) (fun _ => rfl) rfl
  · cases h
theorem s_str (hX : XOk c X C cl co EX) {i : Str} {e : Expr} (h : chkE c (.str i) e = true) : SE X C cl co EX (.str i) e := by
  simp only [chkE] at h
  split at h
  · obtain rfl := of_decide_eq_true h
    exact s_con hX pe_str (d := .str i) (fun ev hp Q E q => by simpa only [wr] using q) (fun H F => .str i) (fun _ => rfl) rfl
  · cases h
theorem s_g (hX : XOk c X C cl co EX) {x : Str} {e : Expr} (h : chkE c (.g x) e = true) : SE X C cl co EX (.g x) e := by
  simp only [chkE] at h
  split at h
  · simp only [Bool.and_eq_true, decide_eq_true_eq] at h
    obtain ⟨rfl, h⟩ := h
    obtain ⟨g, d1, d2⟩ := hX.gl h
    cases hc : co x with
    | none =>
      have no : ∀ σ H Q, ¬ liftE C (wE cl co EX (.g x)) σ H Q := fun σ H Q ⟨ev, hp, I, q⟩ => by
        simp only [wE, wr, hc] at q
        exact q
      exact s_pl hX ⟨fun pins s σ H Q I q => (no σ H Q q).elim⟩ (fun _ => rfl) rfl
    | some d =>
      obtain ⟨u, v, hm, rv, r⟩ := hX.con x d hc
      exact s_con hX (pe_glob g hm rv d1) (d := d) (fun ev hp Q E q => by simpa only [wr, hc, onSome] using q) r (fun _ => rfl) rfl
  · cases h
theorem s_neg (hX : XOk c X C cl co EX) {a : Ex} {x : Expr} {pos : Pos} (h : SE X C cl co EX a x) : SE X C cl co EX (.neg a) (.UnaryOp .USub x pos) := by
  refine s_pl hX (PE.imp (pe_un un_neg_b h.pe) fun σ H Q ⟨ev, hp, I, q⟩ => ?_) (fun _ => rfl) rfl
  simp only [wE, wr] at q
  refine ⟨ev, hp, I, wE_mono hX.cm a _ _ _ _ ?_ q⟩
  intro y hp1 q1 v H1 I1 k1 r1 f1
  unfold opNeg at q1
  split at q1
  · rw [r1.int]
    exact .inl ⟨_, rfl, cont.hereD I1 (cont.back k1 _ _ q1) (.int _)⟩
  · rw [r1.bl]
    exact .inr ⟨_, rfl, cont.hereD I1 (cont.back k1 _ _ q1) (.int _)⟩
  · exact q1.elim
theorem s_no (hX : XOk c X C cl co EX) {a : Ex} {x : Expr} {pos : Pos} (h : SE X C cl co EX a x) : SE X C cl co EX (.no a) (.UnaryOp .Not x pos) where
  pe := PE.imp (pe_not h.pe) fun σ H Q ⟨ev, hp, I, q⟩ => by
    simp only [wE, wr] at q
    exact ⟨ev, hp, I, wE_mono hX.cm a _ _ _ _ (truK_cont fun b hp1 q1 H1 I1 k1 => ⟨b, rfl, cont.hereD I1 (cont.back k1 _ _ q1) (.bl _)⟩) q⟩
  pt := PT.imp (pt_not h.pt) fun σ H Q ⟨ev, hp, I, q⟩ => by
    simp only [wE, wr] at q
    exact ⟨ev, hp, I, wE_mono hX.cm a _ _ _ _ (truK_mono fun b hp1 q1 H1 I1 k1 => q1 H1 I1 k1) q⟩
  pw := fun z => nomatch z
theorem s_an (hX : XOk c X C cl co EX) {a b : Ex} {x y : Expr} {r : List Expr} {pos : Pos} (ha : SE X C cl co EX a x) (hb : PE X (.BoolOp .And (y :: r) pos) (liftE C (wE cl co EX b))) (hw : PW X (.BoolOp .And (y :: r) pos) (liftT C (wE cl co EX b))) :
    SE X C cl co EX (.an a b) (.BoolOp .And (x :: y :: r) pos) := by
  have pw : PW X (.BoolOp .And (x :: y :: r) pos) (liftT C (wE cl co EX (.an a b))) := by
    refine ⟨fun wh pins s σ H Q I h => (pw_and ha.pt hw).run wh pins s σ H Q I ?_⟩
    obtain ⟨ev, hp, I, q⟩ := h
    simp only [wE, wr] at q
    refine ⟨ev, hp, I, wE_mono hX.cm a _ _ _ _ (truK_mono fun t hp1 q1 H1 I1 k1 => ?_) q⟩
    cases t with
    | true =>
      rw [if_pos rfl] at q1 ⊢
      exact ⟨ev, hp1, I1, wE_mono hX.cm b _ _ _ _ (truK_mono fun b hp2 q2 H2 I2 k2 => q2 H2 I2 (k1.trans k2)) q1⟩
    | false =>
      rw [if_neg Bool.false_ne_true] at q1 ⊢
      exact q1 H1 I1 k1
  refine ⟨PE.imp (pe_and ha.pe hb) fun σ H Q ⟨ev, hp, I, q⟩ => ?_, pw.pt, fun _ => pw⟩
  simp only [wE, wr] at q
  refine ⟨ev, hp, I, wE_mono hX.cm a _ _ _ _ (truK_cont fun t hp1 q1 H1 I1 k1 => ⟨t, rfl, ?_⟩) q⟩
  cases t with
  | true =>
    rw [if_pos rfl] at q1 ⊢
    exact ⟨ev, hp1, I1, wE_mono hX.cm b _ _ _ _ (cont.back k1) q1⟩
  | false =>
    rw [if_neg Bool.false_ne_true] at q1 ⊢
    exact cont.hereD I1 (cont.back k1 _ _ q1) (.bl _)
theorem s_oo (hX : XOk c X C cl co EX) {a b : Ex} {x y : Expr} {r : List Expr} {pos : Pos} (ha : SE X C cl co EX a x) (hb : PE X (.BoolOp .Or (y :: r) pos) (liftE C (wE cl co EX b))) (hw : PW X (.BoolOp .Or (y :: r) pos) (liftT C (wE cl co EX b))) :
    SE X C cl co EX (.oo a b) (.BoolOp .Or (x :: y :: r) pos) := by
  have pw : PW X (.BoolOp .Or (x :: y :: r) pos) (liftT C (wE cl co EX (.oo a b))) := by
    refine ⟨fun wh pins s σ H Q I h => (pw_or ha.pt hw).run wh pins s σ H Q I ?_⟩
    obtain ⟨ev, hp, I, q⟩ := h
    simp only [wE, wr] at q
    refine ⟨ev, hp, I, wE_mono hX.cm a _ _ _ _ (truK_mono fun t hp1 q1 H1 I1 k1 => ?_) q⟩
    cases t with
    | false =>
      rw [if_neg Bool.false_ne_true] at q1 ⊢
      exact ⟨ev, hp1, I1, wE_mono hX.cm b _ _ _ _ (truK_mono fun b hp2 q2 H2 I2 k2 => q2 H2 I2 (k1.trans k2)) q1⟩
    | true =>
      rw [if_pos rfl] at q1 ⊢
      exact q1 H1 I1 k1
  refine ⟨PE.imp (pe_or ha.pe hb) fun σ H Q ⟨ev, hp, I, q⟩ => ?_, pw.pt, fun _ => pw⟩
  simp only [wE, wr] at q
  refine ⟨ev, hp, I, wE_mono hX.cm a _ _ _ _ (truK_cont fun t hp1 q1 H1 I1 k1 => ⟨t, rfl, ?_⟩) q⟩
  cases t with
  | false =>
    rw [if_neg Bool.false_ne_true] at q1 ⊢
    exact ⟨ev, hp1, I1, wE_mono hX.cm b _ _ _ _ (cont.back k1) q1⟩
  | true =>
    rw [if_pos rfl] at q1 ⊢
    exact cont.hereD I1 (cont.back k1 _ _ q1) (.bl _)
theorem s_ite (hX : XOk c X C cl co EX) {a b d : Ex} {x y z : Expr} {pos : Pos} (ha : SE X C cl co EX a x) (hb : SE X C cl co EX b y) (hd : SE X C cl co EX d z) : SE X C cl co EX (.ite a b d) (.IfExp x y z pos) where
  pe := PE.imp (pe_ifExp ha.pt hb.pe hd.pe) fun σ H Q ⟨ev, hp, I, q⟩ => by
    simp only [wE, wr] at q
    refine ⟨ev, hp, I, wE_mono hX.cm a _ _ _ _ (truK_mono fun t hp1 q1 H1 I1 k1 => ?_) q⟩
    cases t with
    | true =>
      rw [if_pos rfl] at q1 ⊢
      exact ⟨ev, hp1, I1, wE_mono hX.cm b _ _ _ _ (cont.back k1) q1⟩
    | false =>
      rw [if_neg Bool.false_ne_true] at q1 ⊢
      exact ⟨ev, hp1, I1, wE_mono hX.cm d _ _ _ _ (cont.back k1) q1⟩
  pt := PT.imp (pt_ite ha.pt hb.pt hd.pt) fun σ H Q ⟨ev, hp, I, q⟩ => by
    simp only [wE, wr] at q
    refine ⟨ev, hp, I, wE_mono hX.cm a _ _ _ _ (truK_mono fun t hp1 q1 H1 I1 k1 => ?_) q⟩
    cases t with
    | true =>
      rw [if_pos rfl] at q1 ⊢
      exact ⟨ev, hp1, I1, wE_mono hX.cm b _ _ _ _ (truK_mono fun b hp2 q2 H2 I2 k2 => q2 H2 I2 (k1.trans k2)) q1⟩
    | false =>
      rw [if_neg Bool.false_ne_true] at q1 ⊢
      exact ⟨ev, hp1, I1, wE_mono hX.cm d _ _ _ _ (truK_mono fun b hp2 q2 H2 I2 k2 => q2 H2 I2 (k1.trans k2)) q1⟩
  pw := fun z => nomatch z
/-- a list that from now on stands at an address -/
theorem s_vl (hX : XOk c X C cl co EX) {a : Ex} {e : Expr} (hb : isBop e = false) (h : SE X C cl co EX a e) : SE X C cl co EX (.vl a) e where
  pe := PE.imp h.pe fun σ H Q ⟨ev, hp, I, q⟩ => by
    simp only [wE, wr] at q
    exact ⟨ev, hp, I, wE_mono hX.cm a _ _ _ _ (valK_cont I fun d hp1 q1 v H1 I1 k1 r1 => q1 v H1 I1 k1 r1 trivial) q⟩
  pt := PT.imp h.pt fun σ H Q ⟨ev, hp, I, q⟩ => by
    simp only [wE, wr] at q
    refine ⟨ev, hp, I, wE_mono hX.cm a _ _ _ _ (fun x hp1 q1 => ?_) q⟩
    cases x with
    | d x => exact q1
    | ol l => exact False.elim q1
    | od l => exact False.elim q1
  pw := fun z => by rw [hb] at z; cases z
theorem s_rf (hX : XOk c X C cl co EX) {a : Ex} {e : Expr} (h : PE X e (liftE C (wE cl co EX a))) : PE X e (liftE C (wE cl co EX (.rf a))) :=
  PE.imp h fun σ H Q ⟨ev, hp, I, q⟩ => by
    simp only [wE, wr] at q
    refine ⟨ev, hp, I, wE_mono hX.cm a _ _ _ _ ?_ q⟩
    intro x hp1 q1 v H1 I1 k1 r1 f1
    cases x with
    | d x => exact q1.elim
    | od x => exact q1.elim
    | ol l =>
      obtain ⟨b, vs, rfl, e1, e2, e3, e4⟩ := r1
      obtain ⟨hn, IG, vs2, e1', rG⟩ := f1 b rfl
      have e1'' : H1 b = some (.lst vs2) := e1'
      have nb : ∀ {u o}, H u = some o → u ≠ b := fun e z => by have hn' : H b = none := hn; rw [z, hn'] at e; cases e
      have kk : KE ⟨ev, σ, hp, H⟩ ⟨ev, σ, updD hp1 b (.lst l), H1⟩ := ⟨rfl, rfl, fun u o e f => ⟨(k1.3 u o e f).1, by show updD hp1 b _ u = none; rw [updD_ne (nb e)]; exact (k1.3 u o e f).2⟩, k1.4⟩
      have fb : ∀ u, ¬ Fb (C.wG b) ⟨ev, σ, hp1, H1⟩ u → ¬ Fb C ⟨ev, σ, updD hp1 b (.lst l), H1⟩ u := fun u f z => by
        rcases z with z | z | z
        · by_cases hu : u = b
          · exact f (.inr (.inr (.inl hu)))
          · have z' : updD hp1 b (.lst l) u ≠ none := z
            rw [updD_ne hu] at z'
            exact f (.inl z')
        · exact f (.inr (.inl z))
        · exact f (.inr (.inr (.inr z)))
      have kp : Kp H1 (Fb (C.wG b) ⟨ev, σ, hp1, H1⟩) H1 (Fb C ⟨ev, σ, updD hp1 b (.lst l), H1⟩) := fun u o e f => ⟨e, fb u f⟩
      refine q1 b e2 (.ref b) H1 (I.step kk fun u o e => ?_) kk (.ref b) trivial
      by_cases hu : u = b
      · subst hu
        have e' : updD hp1 u (.lst l) u = some o := e
        rw [updD_same] at e'; cases e'
        exact ⟨.lst vs2, e1'', vs2, rfl, Reps.keep kp rG⟩
      · have e' : updD hp1 b (.lst l) u = some o := e
        rw [updD_ne hu] at e'
        obtain ⟨w, z1, z4⟩ := IG.heap u o e'
        exact ⟨w, z1, RepM.keep kp z4⟩
end
end Mi

namespace Mi
open PySem PySem.Spec PyProof.Rows L2

/-! ### tables: rules -/
section
variable {X : Cx} {o i e : Expr} {es : List Expr} {td ty : TE} {t : TA} {pos apos cpos : Pos} {name : Str} {id : String} {r : V → List V → Hp → VK → Prop}
theorem noSl_of {y : Expr} (h : notSl y = true) : NoSl y := by
  cases y <;> first | exact fun _ _ => rfl | cases h
theorem pe_tget (hu : X.A.units + 1 < cLine) (ho : PE X o td) (hi : PE X i ty) (hs : NoSl i) : PE X (.Subscript o i pos) (fun σ H Q => td σ H fun x H1 => ty σ H1 fun y H2 => ∃ a v, x = .ref a ∧ TGet X H2 a y (some v) ∧ Q v H2) := by
  refine ⟨fun pins s σ H Q I h => ?_⟩
  refine subD_of PySem.F.slot_dict_getitem.lookup hs (thn (ho.run pins s σ H _ I h) fun u s1 ⟨x, H1, I1, rx, q1⟩ => thn (hi.run pins s1 σ H1 _ I1 q1) fun iv s2 ⟨y, H2, I2, ry, a, v, ex, g, q2⟩ => ?_)
  subst ex
  obtain rfl : u = Value.ref a := rx
  exact ⟨(tab_is I2 g.tab).1, t_getItem hu I2 g ry fun w' s3 I3 rw' => ⟨v, H2, I3, rw', q2⟩⟩
theorem pe_tm (slot : Slot "dict" name id) (hty : typeOf (.builtin id) = pure (.type "method_descriptor")) (hm : MtR X id r) (ho : PE X o td) (ha : PA X (e :: es) t)
    (hbase : attributeBase o name X.env (eval o X.env) = eval o X.env)
    (hfew : ((backTo cpos (starEach (e :: es) X.env)).all (fun x => !x.1) && (backToKw cpos (keywordEach [] X.env)).all (fun x => x.1.isSome)
      && decide ((e :: es).length + ([] : List Keyword).length + (if ([] : List Keyword).isEmpty then 0 else 1) < 30)) = true)
    (hline : (apos.endLine == cpos.line) = true) (hs : starEach (e :: es) X.env = (false, eval e X.env) :: starEach es X.env) (hplain : (backTo cpos (starEach es X.env)).any (·.1) = false) :
    PE X (.Call (.Attribute o name apos) (e :: es) [] cpos) (fun σ H Q => td σ H fun x H1 => (∃ a, x = .ref a ∧ IsTab X H1 a) ∧ t σ H1 fun xs H2 => r x xs H2 Q) := by
  refine ⟨fun pins s σ H Q I h => ?_⟩
  refine wpAny_Call_method_late hbase hfew hline rfl (thn (ho.run pins s σ H _ I h) fun v s1 ⟨x, H1, I1, r1, ⟨a, ex, ty⟩, q1⟩ => ?_)
  subst ex
  obtain rfl : v = Value.ref a := r1
  obtain ⟨h1, h2⟩ := tab_is I1 ty
  refine ⟨"dict", id, F.plainAttrs_dict, slot, hty, h1, h2, ?_⟩
  have hA := ha.run cpos pins s1 σ H1 _ I1 q1
  rw [hs] at hA ⊢
  refine Calls.callWith_builtin (by show (false || (backTo cpos (starEach es X.env)).any (·.1)) = false; rw [hplain] <;> rfl) (Calls.evalArgs_plain ?_)
  exact thn hA fun us s2 ⟨vs, H2, I2, r2, q2⟩ => hm pins s2 σ H2 (.ref a) vs (.ref a) us Q I2 rfl r2 q2
def rTGet1 (X : Cx) : V → List V → Hp → VK → Prop := fun x xs H Q => ∃ a y o, x = .ref a ∧ xs = [y] ∧ TGet X H a y o ∧ Q (o.getD .non) H
def rTGet2 (X : Cx) : V → List V → Hp → VK → Prop := fun x xs H Q => ∃ a y d o, x = .ref a ∧ xs = [y, d] ∧ TGet X H a y o ∧ Q (o.getD d) H
def rTSetd (X : Cx) : V → List V → Hp → VK → Prop := fun x xs H Q => ∃ a y d o H', x = .ref a ∧ xs = [y, d] ∧ TGP X H a y d o H' ∧ (∀ v, o = some v → Q v H) ∧ (o = none → Q d H')
def rTPop2 (X : Cx) : V → List V → Hp → VK → Prop := fun x xs H Q => ∃ a y d o H', x = .ref a ∧ xs = [y, d] ∧ TGD X H a y o H' ∧ (∀ v, o = some v → Q v H') ∧ (o = none → Q d H)
theorem vals1 {x : V} {us : List Value} (h : Vals [x] us) : ∃ u, us = [u] ∧ RelV x u := by
  cases h with
  | cons r t => cases t; exact ⟨_, rfl, r⟩
theorem valsTwo {x y : V} {us : List Value} (h : Vals [x, y] us) : ∃ u w, us = [u, w] ∧ RelV x u ∧ RelV y w := by
  cases h with
  | cons r t => cases t with
    | cons r2 t => cases t; exact ⟨_, _, rfl, r, r2⟩
theorem mt_tget1 (hu : X.A.units + 1 < cLine) : MtR X "dict.get" (rTGet1 X) := by
  rintro pins s σ H x xs v us Q I rx rxs ⟨a, y, o, rfl, rfl, g, q⟩
  cases rx
  obtain ⟨u, rfl, ru⟩ := vals1 rxs
  exact t_get1 hu I g ru fun w' s' I' r' => ⟨_, H, I', r', q⟩
theorem mt_tget2 (hu : X.A.units + 1 < cLine) : MtR X "dict.get" (rTGet2 X) := by
  rintro pins s σ H x xs v us Q I rx rxs ⟨a, y, d, o, rfl, rfl, g, q⟩
  cases rx
  obtain ⟨u, w, rfl, ru, rw2⟩ := valsTwo rxs
  exact t_get2 hu I g ru rw2 fun w' s' I' r' => ⟨_, H, I', r', q⟩
theorem mt_tsetd (hu : X.A.units + 1 < cLine) : MtR X "dict.setdefault" (rTSetd X) := by
  rintro pins s σ H x xs v us Q I rx rxs ⟨a, y, d, o, H', rfl, rfl, g, q1, q2⟩
  cases rx
  obtain ⟨u, w, rfl, ru, rw2⟩ := valsTwo rxs
  exact t_setd hu I g ru rw2 (fun v e w' s' I' r' => ⟨_, H, I', r', q1 v e⟩) (fun e s' I' => ⟨_, H', I', rw2, q2 e⟩)
theorem mt_tpop2 (hu : X.A.units + 1 < cLine) : MtR X "dict.pop" (rTPop2 X) := by
  rintro pins s σ H x xs v us Q I rx rxs ⟨a, y, d, o, H', rfl, rfl, g, q1, q2⟩
  cases rx
  obtain ⟨u, w, rfl, ru, rw2⟩ := valsTwo rxs
  exact t_pop2 hu I g ru rw2 (fun v e w' s' I' r' => ⟨_, H', I', r', q1 v e⟩) (fun e s' I' => ⟨_, H, I', rw2, q2 e⟩)
theorem mt_popAt2 : MtR X "list.pop" (fun x vs H Q => ∃ l xs i k y, x = .ref l ∧ vs = [.int i] ∧ H l = some (.lst xs) ∧ -(xs.length : Int) ≤ i ∧ i < xs.length ∧ seqIndex? i xs.length = some k ∧ xs[k]? = some y ∧ Q y (upd H l (.lst (xs.eraseIdx k)))) := by
  rintro pins s σ H x vs v us Q I rx rv ⟨l, xs, i, k, y, rfl, rfl, hH, h1, h2, hk, hy, q⟩
  have z : xs.length ≤ sizeLine := (show ObjOk X.prog X.w H s.heap l (.lst xs) from I.hok l _ hH).1
  rw [sizeLine_eq] at z
  exact mt_popAt pins s σ H _ _ _ _ Q I rx rv ⟨l, xs, i, k, y, rfl, rfl, hH, by omega, by omega, hk, hy, q⟩
theorem set_tab (hu : X.A.units + 1 < cLine) : PSet X (fun o i v H Q => ∃ a H', o = .ref a ∧ TPut X H a i v H' ∧ Q H') := by
  rintro pins s σ H o i v ov iv u Q I ro ri rv ⟨a, H', rfl, g, q⟩
  cases ro
  exact t_setItem hu I g ri rv fun s' I' => ⟨H', I', q⟩
theorem pe_dnewD : PE X (.Dict [] [] pos) (fun _ H Q => ∀ p, H p = none → Q (.ref p) (upd H p (DTo (X.prog, X.w) p []))) := ⟨fun pins s σ H Q I h =>
  wpAny_Dict_empty ⟨.ref s.heap.objs.size, _, I.laid (a := s.heap.objs.size) (o := DTo (X.prog, X.w) s.heap.objs.size []) (t' := s.toks) (fun _ _ q => Heap.get?_push_of_some _ q) (Nat.le_refl _) (dto_empty s.heap I.big), rfl, h _ (I.hok.fresh (Nat.le_refl _))⟩⟩
end
section
variable {c : Ctx} {X : Cx} {C : BC} {cl : CallT} {co : ConT} {EX : Ev → EK}
theorem base_of {x : Expr} {n : Str} {env : Env} (hr : recvB x = true) : attributeBase x n env (eval x env) = eval x env := by cases x <;> first | rfl | cases hr
theorem XOk.u1 (hX : XOk c X C cl co EX) : X.A.units + 1 < cLine := by have := hX.hu; omega
theorem Reps.dropLast {K : PySem.W.Frag} {mg : Str → Option Value} {H : Hp} {F : Addr → Prop} {l : List D} {vs : List V} (r : Reps K mg H F l vs) : Reps K mg H F l.dropLast vs.dropLast := by
  rw [List.dropLast_eq_take, List.dropLast_eq_take, r.length]
  exact r.take _
theorem Reps.erase {K : PySem.W.Frag} {mg : Str → Option Value} {H : Hp} {F : Addr → Prop} : ∀ {l : List D} {vs : List V} (n : Nat), Reps K mg H F l vs → Reps K mg H F (l.eraseIdx n) (vs.eraseIdx n)
  | _, _, _, .nil => .nil
  | _, _, 0, .cons _ t => t
  | _, _, n + 1, .cons q t => .cons q (Reps.erase n t)
/-- list.pop() -/
theorem e_o1 (hX : XOk c X C cl co EX) {a : Ex} {x : Expr} {apos cpos : Pos} (hl : (apos.endLine == cpos.line) = true) (hr : recvB x = true) (ha : PE X x (liftE C (wE cl co EX a))) :
    PE X (.Call (.Attribute x "pop" apos) [] [] cpos) (liftE C (wE cl co EX (.o1 .pop a))) := by
  refine PE.imp (pe_bm0 (T := "list") F.plainAttrs_list F.slot_list_pop F.type_list_pop (r := rPop) mt_pop ha (base_of hr) hl) fun σ H Q ⟨ev, hp, I, h⟩ => ?_
  simp only [wE, wr] at h
  refine ⟨ev, hp, I, wE_mono hX.cm a _ _ _ _ ?_ h⟩
  intro x1 hp1 h1 v1 H1 I1 k1 r1 n1
  simp only [opO1] at h1
  split at h1
  · rename_i b
    have hv : v1 = .ref b := by cases r1; rfl
    subst hv
    split at h1
    · rename_i l e
      obtain ⟨d, hd, h1⟩ := onSome_iff.mp h1
      obtain ⟨w, e2, vs, rfl, r⟩ := I1.heap b _ e
      rw [List.getLast?_eq_getElem?] at hd
      obtain ⟨z, hz, rz⟩ := r.get hd
      obtain ⟨J, kk⟩ := I1.putM (m' := .lst l.dropLast) (u' := .lst vs.dropLast) e ⟨_, rfl, Reps.dropLast r⟩
      exact ⟨.inl ⟨rfl, vs, SqL.of e2⟩, b, vs, z, rfl, rfl, e2, by rw [← r.length]; exact hz, cont.back k1 _ _ h1 z _ J kk (RepP.ke kk rz) trivial⟩
    · exact h1.elim
  · exact h1.elim
theorem two_args {v w : Expr} {cpos : Pos} {env : Env} (pv : plainE v = true) (pw : plainE w = true) : starEach [v, w] env = [(false, eval v env), (false, eval w env)] := by
  rw [star_of pv, star_of pw]; rfl
/-- d[k], d.get(k), list.pop(k) -/
theorem e_dx (hX : XOk c X C cl co EX) {a b : Ex} {x y : Expr} {pos : Pos} (hs : notSl y = true) (ha : PE X x (liftE C (wE cl co EX a))) (hb : PE X y (liftE C (wE cl co EX b))) :
    PE X (.Subscript x y pos) (liftE C (wE cl co EX (.o2 .dx a b))) := by
  refine PE.imp (pe_tget hX.u1 ha hb (noSl_of hs)) fun σ H Q ⟨ev, hp, I, h⟩ => ?_
  simp only [wE, wr] at h
  refine ⟨ev, hp, I, wE_mono hX.cm a _ _ _ _ ?_ h⟩
  rintro x1 hp1 ⟨_, h1⟩ v1 H1 I1 k1 r1 n1
  refine ⟨ev, hp1, I1, wE_mono hX.cm b _ _ _ _ ?_ h1⟩
  intro y1 hp2 h2 u H2 I2 k2 r2 n2
  simp only [opO2] at h2
  obtain ⟨q, o, od, rfl, g, h2, ro⟩ := dictG_ok hX.K hX.pw I2 (r1.ke k2) r2 h2
  obtain ⟨d, rfl, h2⟩ := onSome_iff.mp h2
  cases o with
  | none => exact ro.elim
  | some w => exact ⟨q, w, rfl, g, cont.hereD I2 (cont.back (k1.trans k2) _ _ h2) ro⟩
theorem e_get1 (hX : XOk c X C cl co EX) {a b : Ex} {x v : Expr} {apos cpos : Pos} (hl : (apos.endLine == cpos.line) = true) (pv : plainE v = true) (hr : recvB x = true) (ha : PE X x (liftE C (wE cl co EX a))) (hb : PE X v (liftE C (wE cl co EX b))) :
    PE X (.Call (.Attribute x "get" apos) [v] [] cpos) (liftE C (wE cl co EX (.o2 .get a b))) := by
  have s0 : starEach [v] X.env = [(false, eval v X.env)] := star_of pv
  refine PE.imp (pe_tm F.slot_dict_get F.type_dict_get (mt_tget1 hX.u1) ha (pa_cons hb pa_nil (star_of pv)) (base_of hr) (by rw [s0]; rfl) hl (star_of pv) rfl) fun σ H Q ⟨ev, hp, I, h⟩ => ?_
  simp only [wE, wr] at h
  refine ⟨ev, hp, I, wE_mono hX.cm a _ _ _ _ ?_ h⟩
  rintro x1 hp1 ⟨hd, h1⟩ v1 H1 I1 k1 r1 n1
  refine ⟨isDict_ok hX.pw I1 r1 hd, ev, hp1, I1, wE_mono hX.cm b _ _ _ _ ?_ h1⟩
  intro y1 hp2 h2 u H2 I2 k2 r2 n2
  simp only [opO2] at h2
  obtain ⟨q, o, od, rfl, g, h2, ro⟩ := dictG_ok hX.K hX.pw I2 (r1.ke k2) r2 h2
  refine ⟨q, u, o, rfl, rfl, g, cont.hereD I2 (cont.back (k1.trans k2) _ _ h2) ?_⟩
  cases od <;> cases o <;> first | exact ro | exact ro.elim | exact .non
theorem e_lpop (hX : XOk c X C cl co EX) {a b : Ex} {x v : Expr} {apos cpos : Pos} (hl : (apos.endLine == cpos.line) = true) (pv : plainE v = true) (hr : recvB x = true) (ha : PE X x (liftE C (wE cl co EX a))) (hb : PE X v (liftE C (wE cl co EX b))) :
    PE X (.Call (.Attribute x "pop" apos) [v] [] cpos) (liftE C (wE cl co EX (.o2 .lpop a b))) := by
  have s0 : starEach [v] X.env = [(false, eval v X.env)] := star_of pv
  refine PE.imp (pe_bm (T := "list") F.plainAttrs_list F.slot_list_pop F.type_list_pop mt_popAt2 ha (pa_cons hb pa_nil (star_of pv)) (base_of hr) (by rw [s0]; rfl) hl (star_of pv)) fun σ H Q ⟨ev, hp, I, h⟩ => ?_
  simp only [wE, wr] at h
  refine ⟨ev, hp, I, wE_mono hX.cm a _ _ _ _ ?_ h⟩
  rintro x1 hp1 ⟨hd, h1⟩ v1 H1 I1 k1 r1 n1
  obtain ⟨q, ws, rfl, e0⟩ := isList_ok I1 r1 hd
  refine ⟨.inl ⟨rfl, ws, SqL.of e0⟩, ev, hp1, I1, wE_mono hX.cm b _ _ _ _ ?_ h1⟩
  intro y1 hp2 h2 u H2 I2 k2 r2 n2
  simp only [opO2] at h2
  split at h2
  · rename_i q' i
    have hq : q' = q := by
      have := r1.ke k2
      cases this; rfl
    subst hq
    rw [r2.int]
    split at h2
    · rename_i l e
      obtain ⟨n, hn, h2⟩ := onSome_iff.mp h2
      obtain ⟨d, hd2, h2⟩ := onSome_iff.mp h2
      obtain ⟨w, e2, vs, rfl, r⟩ := I2.heap q' _ e
      obtain ⟨z, hz, rz⟩ := r.get hd2
      obtain ⟨J, kk⟩ := I2.putM (m' := .lst (l.eraseIdx n)) (u' := .lst (vs.eraseIdx n)) e ⟨_, rfl, Reps.erase n r⟩
      have hnn := hn
      rw [r.length] at hnn
      obtain ⟨s1, s2, s3, s4⟩ := ixN_seq hnn
      exact ⟨q', vs, i, n, z, rfl, rfl, e2, s3, s4, s1, hz, cont.back (k1.trans k2) _ _ h2 z _ J kk (RepP.ke kk rz) trivial⟩
    · exact h2.elim
  · exact h2.elim
/-- d.get(k, x), d.setdefault(k, x), d.pop(k, x) -/
theorem o3_ok (hX : XOk c X C cl co EX) (f : O3) : ∃ (id : String) (r : V → List V → Hp → VK → Prop), Slot "dict" (o3n f) id ∧ typeOf (.builtin id) = pure (.type "method_descriptor") ∧ MtR X id r ∧
    ∀ (p : Pt) (x y : SV) (z : D) (v u w : V) (Q : VK), I3 C p → RepB C p x v → RepB C p y u → RepP C p z w → opO3 f x y z p.hp (cont C p Q) → r v [u, w] p.H Q := by
  cases f with
  | get =>
    refine ⟨"dict.get", _, F.slot_dict_get, F.type_dict_get, mt_tget2 hX.u1, fun p x y z v u w Q I rx ry rz h => ?_⟩
    simp only [opO3] at h
    obtain ⟨q, o, od, rfl, g, h, ro⟩ := dictG_ok hX.K hX.pw I rx ry h
    refine ⟨q, u, w, o, rfl, rfl, g, cont.hereD I h ?_⟩
    cases od <;> cases o <;> first | exact ro | exact ro.elim | exact rz
  | setd =>
    refine ⟨"dict.setdefault", _, F.slot_dict_setdefault, F.type_dict_setdefault, mt_tsetd hX.u1, fun p x y z v u w Q I rx ry rz h => ?_⟩
    simp only [opO3, dictG] at h
    split at h
    · rename_i a
      have hv : v = .ref a := by cases rx; rfl
      split at h
      · rename_i l e
        obtain ⟨i, e1, h⟩ := onSome_iff.mp h
        obtain ⟨w0, e2, vs, rfl, r⟩ := I.heap a _ e
        have ro := kv_get i r
        obtain ⟨J, kk⟩ := I.putM (m' := .dk (setK l i z)) e ⟨_, rfl, kv_set i rz r⟩
        have ek := keyS_rep e1 ry
        cases ho : getK l i with
        | some d =>
          rw [ho] at h ro
          cases hv2 : valV vs i with
          | none => rw [hv2] at ro; exact ro.elim
          | some d' =>
            rw [hv2] at ro
            exact ⟨a, u, w, some d', _, hv, rfl, .inl ⟨vs, i, e2, ek, hv2.symm, nofun, rfl⟩, fun v' ev => by cases ev; exact cont.hereD I h ro, nofun⟩
        | none =>
          rw [ho] at h ro
          cases hv2 : valV vs i with
          | some d' => rw [hv2] at ro; exact ro.elim
          | none =>
            simp only [dictP, e] at h
            rw [e1] at h
            obtain ⟨hz, h⟩ := h
            exact ⟨a, u, w, none, _, hv, rfl, .inl ⟨vs, i, e2, ek, hv2.symm, fun _ => by rw [← PySem.Paired.length r]; exact hz, rfl⟩, nofun, fun _ => h w _ J kk (RepP.ke kk rz) trivial⟩
      · rename_i l e
        obtain ⟨i, e1, h⟩ := onSome_iff.mp h
        obtain ⟨w0, e2, xs, rfl, r⟩ := I.heap a _ e
        have ro := kh_get i r
        obtain ⟨b, rfl, n⟩ := keyT_rep e1 ry
        obtain ⟨J, kk⟩ := I.putM (m' := .dt (setK l i z)) e ⟨_, rfl, kh_set i n rz r⟩
        have hks : KeysAt X.K p.H xs := by rw [← hX.K]; exact kh_keys r
        have hsq : SqT X.K p.H b (i.map kV) := by rw [← hX.K]; exact n.sq
        rw [hX.pw] at e2 J kk
        cases ho : getK l i with
        | some d =>
          rw [ho] at h ro
          cases hv2 : getH xs i with
          | none => rw [hv2] at ro; exact ro.elim
          | some d' =>
            rw [hv2] at ro
            exact ⟨a, _, w, some d', _, hv, rfl, .inr ⟨xs, i, b, e2, hks, rfl, hsq, hv2.symm, nofun, rfl⟩, fun v' ev => by cases ev; exact cont.hereD I h ro, nofun⟩
        | none =>
          rw [ho] at h ro
          cases hv2 : getH xs i with
          | some d' => rw [hv2] at ro; exact ro.elim
          | none =>
            simp only [dictP, e] at h
            rw [e1] at h
            obtain ⟨hz, h⟩ := h
            exact ⟨a, _, w, none, _, hv, rfl, .inr ⟨xs, i, b, e2, hks, rfl, hsq, hv2.symm, fun _ => by rw [← PySem.Paired.length r]; exact hz, rfl⟩, nofun, fun _ => h w _ J kk (RepP.ke kk rz) trivial⟩
      · exact h.elim
    · exact h.elim
  | pop =>
    refine ⟨"dict.pop", _, F.slot_dict_pop, F.type_dict_pop, mt_tpop2 hX.u1, fun p x y z v u w Q I rx ry rz h => ?_⟩
    simp only [opO3] at h
    split at h
    · rename_i a
      have hv : v = .ref a := by cases rx; rfl
      split at h
      · rename_i l e
        obtain ⟨i, e1, h⟩ := onSome_iff.mp h
        obtain ⟨w0, e2, vs, rfl, r⟩ := I.heap a _ e
        have ro := kv_get i r
        obtain ⟨J, kk⟩ := I.putM (m' := .dk (delK l i)) e ⟨_, rfl, kv_del i r⟩
        have ek := keyS_rep e1 ry
        cases ho : getK l i with
        | some d =>
          rw [ho] at h ro
          cases hv2 : valV vs i with
          | none => rw [hv2] at ro; exact ro.elim
          | some d' =>
            rw [hv2] at ro
            exact ⟨a, u, w, some d', _, hv, rfl, .inl ⟨vs, i, e2, ek, hv2.symm, rfl⟩, fun v' ev => by cases ev; exact h d' _ J kk (RepP.ke kk ro) trivial, nofun⟩
        | none =>
          rw [ho] at h ro
          cases hv2 : valV vs i with
          | some d' => rw [hv2] at ro; exact ro.elim
          | none => exact ⟨a, u, w, none, _, hv, rfl, .inl ⟨vs, i, e2, ek, hv2.symm, rfl⟩, nofun, fun _ => cont.hereD I h rz⟩
      · rename_i l e
        obtain ⟨i, e1, h⟩ := onSome_iff.mp h
        obtain ⟨w0, e2, xs, rfl, r⟩ := I.heap a _ e
        have ro := kh_get i r
        obtain ⟨b, rfl, n⟩ := keyT_rep e1 ry
        obtain ⟨J, kk⟩ := I.putM (m' := .dt (delK l i)) e ⟨_, rfl, kh_del i r⟩
        have hks : KeysAt X.K p.H xs := by rw [← hX.K]; exact kh_keys r
        have hsq : SqT X.K p.H b (i.map kV) := by rw [← hX.K]; exact n.sq
        rw [hX.pw] at e2 J kk
        cases ho : getK l i with
        | some d =>
          rw [ho] at h ro
          cases hv2 : getH xs i with
          | none => rw [hv2] at ro; exact ro.elim
          | some d' =>
            rw [hv2] at ro
            exact ⟨a, _, w, some d', _, hv, rfl, .inr ⟨xs, i, b, e2, hks, rfl, hsq, hv2.symm, rfl⟩, fun v' ev => by cases ev; exact h d' _ J kk (RepP.ke kk ro) trivial, nofun⟩
        | none =>
          rw [ho] at h ro
          cases hv2 : getH xs i with
          | some d' => rw [hv2] at ro; exact ro.elim
          | none => exact ⟨a, _, w, none, _, hv, rfl, .inr ⟨xs, i, b, e2, hks, rfl, hsq, hv2.symm, rfl⟩, nofun, fun _ => cont.hereD I h rz⟩
      · exact h.elim
    · exact h.elim
theorem e_o3 (hX : XOk c X C cl co EX) {f : O3} {a b d : Ex} {x v w : Expr} {apos cpos : Pos} (hl : (apos.endLine == cpos.line) = true) (pv : plainE v = true) (pw : plainE w = true) (hr : recvB x = true) (ha : PE X x (liftE C (wE cl co EX a)))
    (hb : PE X v (liftE C (wE cl co EX b))) (hd : PE X w (liftE C (wE cl co EX d))) : PE X (.Call (.Attribute x (o3n f) apos) [v, w] [] cpos) (liftE C (wE cl co EX (.o3 f a b d))) := by
  have s0 : starEach [v, w] X.env = [(false, eval v X.env), (false, eval w X.env)] := two_args (cpos := cpos) pv pw
  have s1 : starEach [w] X.env = [(false, eval w X.env)] := star_of pw
  obtain ⟨id, r, slot, ty, mt, hop⟩ := o3_ok hX f
  refine PE.imp (pe_tm slot ty mt ha (pa_cons hb (pa_cons hd pa_nil (star_of pw)) (star_of pv)) (base_of hr) (by rw [s0]; rfl) hl (star_of pv) (by rw [s1]; rfl)) fun σ H Q ⟨ev, hp, I, h⟩ => ?_
  simp only [wE, wr] at h
  refine ⟨ev, hp, I, wE_mono hX.cm a _ _ _ _ ?_ h⟩
  rintro x1 hp1 ⟨hdd, h1⟩ v1 H1 I1 k1 r1 n1
  refine ⟨isDict_ok hX.pw I1 r1 hdd, ev, hp1, I1, wE_mono hX.cm b _ _ _ _ ?_ h1⟩
  intro y1 hp2 h2 u H2 I2 k2 r2 n2
  refine ⟨ev, hp2, I2, wE_mono hX.cm d _ _ _ _ (valK_cont I2 fun z hp3 h3 w3 H3 I3' k3 r3 => ?_) h2⟩
  exact hop ⟨ev, σ, hp3, H3⟩ x1 y1 z v1 u w3 Q I3' (r1.ke (k2.trans k3)) (r2.ke k3) r3 (opO3_mono (cont.back (k1.trans (k2.trans k3))) h3)
/-- {} -/
theorem e_dnew (hX : XOk c X C cl co EX) {t : Bool} {pos : Pos} : PE X (.Dict [] [] pos) (liftE C (wE cl co EX (.dnew t))) := by
  cases t with
  | false =>
    refine PE.imp pe_dnewK fun σ H Q ⟨ev, hp, I, h⟩ p hn => ?_
    simp only [wE, wr] at h
    obtain ⟨J, kk⟩ := I.madeM (m := .dk []) (u := .dK []) hn ⟨[], rfl, .nil⟩
    exact h p (I.fresh_free hn).1 (.ref p) _ J kk (.ref p) trivial
  | true =>
    refine PE.imp pe_dnewD fun σ H Q ⟨ev, hp, I, h⟩ p hn => ?_
    simp only [wE, wr] at h
    obtain ⟨J, kk⟩ := I.madeM (m := .dt []) (u := DTo (X.prog, X.w) p []) hn ⟨[], by rw [hX.pw], .nil⟩
    exact h p (I.fresh_free hn).1 (.ref p) _ J kk (.ref p) trivial
/-! ### displays -/
theorem XOk.wG (hX : XOk c X C cl co EX) (D : Addr) : XOk c X (C.wG D) cl co (fun _ => noE) where
  N := hX.N
  nd := hX.nd
  sc := hX.sc
  calm := hX.calm
  K := hX.K
  mg := hX.mg
  pw := hX.pw
  hu := hX.hu
  gd := hX.gd
  bi := hX.bi
  cm := hX.cm
  fn := fun f hf => (hX.fn f hf).ex.elim fun k h => ⟨k, h⟩
  con := hX.con
  tb := hX.tb
  pass := hX.pass
  fnc := hX.fnc
  tk := by
    rintro u s' ⟨_, _, _, _, _, _, _, _, _, _, _, _, _, _, _, _, w⟩
    obtain ⟨_, _, _, _, _, _, z⟩ := w
    exact z.elim
  cls := hX.cls
  rm := hX.rm
  tops := hX.tops
def tvG (C : BC) (cl : CallT) (co : ConT) (v : Ex) : TE := fun σ H Q => ∃ D : Addr, True ∧ liftE (C.wG D) (wE cl co (fun _ => noE) v) σ H Q
def trOf (C : BC) (cl : CallT) (co : ConT) : List Str → List Ex → List (TE × TE)
  | k :: ks, v :: vs => (tC (.str k), tvG C cl co v) :: trOf C cl co ks vs
  | _, _ => []
def zipV : List Str → List V → List (Key × V)
  | k :: ks, w :: ws => (Sum.inr k, w) :: zipV ks ws
  | _, _ => []
theorem keysB_facts : ∀ {ks : List Str} {keys : List (Option Expr)}, keysB ks keys = true → keys.all (·.isSome) = true ∧ keys.length = ks.length
  | [], [], _ => ⟨rfl, rfl⟩
  | k :: ks, e :: keys, h => by
    unfold keysB at h
    split at h
    · rename_i a1 a2
      cases a1
    · rename_i k' ks' j _ _ es a1 a2
      cases a1; cases a2
      obtain ⟨h1, h2⟩ := Bool.and_eq_true_iff.mp h
      obtain ⟨h3, h4⟩ := keysB_facts h2
      exact ⟨by simpa using h3, by simp [h4]⟩
    · cases h
  | [], _ :: _, h => by simp [keysB] at h
  | _ :: _, [], h => by simp [keysB] at h
theorem tpairs_ok (hX : XOk c X C cl co EX) (Da : Addr) {σ : L2.St} {ev : Ev} : ∀ (vs : List Ex) (ks : List Str) (hp : HpD) (H : Hp) (K : List D → HpD → Prop) (G : List (V × V) → Hp → Prop), ks.length = vs.length → I3 (C.wG Da) ⟨ev, σ, hp, H⟩ → was cl co vs ev hp K noE →
    (∀ ds ws hp' H', K ds hp' → I3 (C.wG Da) ⟨ev, σ, hp', H'⟩ → KE ⟨ev, σ, hp, H⟩ ⟨ev, σ, hp', H'⟩ → RepsP (C.wG Da) ⟨ev, σ, hp', H'⟩ ds ws → ds.length = ks.length → G ((zipV ks ws).map fun kv => (kV kv.1, kv.2)) H') → tPairs (trOf C cl co ks vs) σ H G
  | [], [], hp, H, K, G, hl, I, h, R => by
    simp only [was] at h
    exact R [] [] hp H h I (KE.refl _) .nil rfl
  | v :: vs, k :: ks, hp, H, K, G, hl, I, h, R => by
    simp only [was] at h
    refine ⟨Da, trivial, ev, hp, I, wE_mono hX.cm v _ _ _ _ (valK_cont I fun d hp1 q1 w H1 I1 k1 r1 => ?_) h⟩
    refine tpairs_ok hX Da vs ks hp1 H1 _ _ (by simpa using hl) I1 q1 fun ds ws hp2 H2 q2 I2 k2 r2 l2 => ?_
    exact R (d :: ds) (w :: ws) hp2 H2 q2 I2 (k1.trans k2) (.cons (RepP.ke k2 r1) r2) (by simp [l2])
  | [], _ :: _, _, _, _, _, hl, _, _, _ => by simp at hl
  | _ :: _, [], _, _, _, _, hl, _, _, _ => by simp at hl
theorem zipV_keys : ∀ {ks : List Str} {ws : List V}, ks.length = ws.length → (zipV ks ws).map (·.1) = ks.map Sum.inr
  | [], [], _ => rfl
  | k :: ks, w :: ws, h => by
    show Sum.inr k :: (zipV ks ws).map (·.1) = _
    rw [zipV_keys (by simpa using h)]; rfl
  | [], _ :: _, h => by simp at h
  | _ :: _, [], h => by simp at h
theorem valV_notin {kvs : List (Key × V)} {k : Key} (h : k ∉ kvs.map (·.1)) : valV kvs k = none := by
  unfold valV
  rw [List.find?_eq_none.mpr fun x hx => by
    have : x.1 ≠ k := fun z => h (by rw [← z]; exact List.mem_map.mpr ⟨x, hx, rfl⟩)
    simp [this]]
  rfl
theorem mergeK_nd : ∀ (more acc : List (Key × V)), ((acc ++ more).map (·.1)).Nodup → mergeK acc more = acc ++ more
  | [], acc, _ => by rw [List.append_nil]; rfl
  | p :: r, acc, h => by
    have h1 : p.1 ∉ acc.map (·.1) := fun z => by
      rw [List.map_append, List.nodup_append] at h
      exact h.2.2 _ z _ (by simp) rfl
    show mergeK (putK acc p.1 p.2) r = _
    rw [putK_new p.2 (valV_notin h1), mergeK_nd r _ (by rw [List.append_assoc]; exact h), List.append_assoc]
    rfl
theorem inr_nodup : ∀ {ks : List Str}, ks.Nodup → (ks.map (Sum.inr : Str → Key)).Nodup
  | [], _ => List.nodup_nil
  | k :: ks, h => by
    rw [List.nodup_cons] at h
    rw [List.map_cons, List.nodup_cons]
    refine ⟨fun z => h.1 ?_, inr_nodup h.2⟩
    obtain ⟨k', h1, h2⟩ := List.mem_map.mp z
    cases h2; exact h1
theorem zip_rep {K : PySem.W.Frag} {mg : Str → Option Value} {H : Hp} {F : Addr → Prop} : ∀ {ks : List Str} {ds : List D} {ws : List V}, Reps K mg H F ds ws → ds.length = ks.length → RepKV K mg H F (List.zipWith (fun k d => (Sum.inr k, d)) ks ds) (zipV ks ws)
  | [], [], _, .nil, _ => .nil
  | k :: ks, d :: ds, _, .cons r t, h => .cons ⟨rfl, r⟩ (zip_rep t (by simpa using h))
  | [], _ :: _, _, _, h => by simp at h
  | _ :: _, [], _, _, h => by simp at h
theorem zipV_len : ∀ {ks : List Str} {ws : List V}, ks.length = ws.length → (zipV ks ws).length = ks.length
  | [], [], _ => rfl
  | k :: ks, w :: ws, h => by
    show (zipV ks ws).length + 1 = _
    rw [zipV_len (by simpa using h)]; rfl
  | [], _ :: _, h => by simp at h
  | _ :: _, [], h => by simp at h
theorem e_dct (hX : XOk c X C cl co EX) {ks : List Str} {vs : List Ex} {keys : List (Option Expr)} {values : List Expr} {pos : Pos} (hk : keysB ks keys = true) (h0 : ks ≠ []) (h15 : ks.length ≤ 15) (hn : ks.Nodup) (hl : ks.length = values.length) (hl2 : ks.length = vs.length)
    (hpp : PPs X pos keys values (trOf C cl co ks vs)) : PE X (.Dict keys values pos) (liftE C (wE cl co EX (.dct ks vs))) := by
  obtain ⟨f1, f2⟩ := keysB_facts hk
  refine PE.imp (pe_disp hpp f1 (by rw [f2, hl]) (fun z => h0 (by rw [z] at f2; exact List.length_eq_zero_iff.mp f2.symm)) (by rw [f2]; exact h15)) fun σ H Q ⟨ev, hp, I, h⟩ p hnp => ?_
  simp only [wE, wr] at h
  obtain ⟨IG, kG⟩ := I.inG (u := .dK []) hnp
  have kp0 := (I.laid (o := .dK []) hnp).2
  refine tpairs_ok hX p vs ks hp (upd H p (.dK [])) _ _ hl2 IG h fun ds ws hp' H' q I' k' r l2 => ?_
  have np : hp' p = none := (I'.g p (.inl rfl)).2.1
  have n0 : hp p = none := (I.fresh_free hnp).1
  have e1 : H' p = some (.dK []) := (k'.3 p (.dK []) upd_same n0).1
  have lw : ks.length = ws.length := by rw [← l2, r.length]
  refine ⟨e1, zipV ks ws, rfl, by rw [zipV_len lw]; exact h15, ?_⟩
  have em : mergeK [] (zipV ks ws) = zipV ks ws := by
    have := mergeK_nd (zipV ks ws) [] (by rw [List.nil_append, zipV_keys lw]; exact inr_nodup hn)
    rw [List.nil_append] at this; exact this
  rw [em]
  obtain ⟨J, kk⟩ := I3.openG (q := ⟨ev, σ, hp, H⟩) (p := ⟨ev, σ, hp', H'⟩) (m := .dk (List.zipWith (fun k d => (Sum.inr k, d)) ks ds)) (u0 := .dK []) (u := .dK (zipV ks ws)) I hnp I' k' ⟨_, rfl, zip_rep r l2⟩
  exact q p np (.ref p) _ J kk (.ref p) trivial
end
end Mi

namespace Mi
open PySem PySem.Spec PyProof.Rows L2
/-! ### written tables of defs; a def that a slot holds -/
section
variable {c : Ctx} {X : Cx} {C : BC} {cl : CallT} {co : ConT} {EX : Ev → EK}
theorem rep_fn {K : PySem.W.Frag} {mg : Str → Option Value} {H : Hp} {F : Addr → Prop} {f : Str} {v : V} (h : Rep K mg H F (.fn f) v) : ∃ a, v = .ref a ∧ mg f = some (.ref a) := by
  cases h with
  | fn e => exact ⟨_, rfl, e⟩
theorem e_tin (hX : XOk c X C cl co EX) {ng : Bool} {t : Str} {fs : List (Str × Str)} {a : Ex} {x : Expr} {p : CmpOp} {q pos : Pos} (hp : copB (if ng then .notin else .inn) p = true) (hg : glB c t = true) (ht : hasTb c t fs = true)
    (ha : PE X x (liftE C (wE cl co EX a))) : PE X (.Compare x [p] [.Name t q] pos) (liftE C (wE cl co EX (.tin ng t fs a))) ∧ PT X (.Compare x [p] [.Name t q] pos) (liftT C (wE cl co EX (.tin ng t fs a))) := by
  obtain ⟨dv, m, ne, e⟩ := hasTb_mem ht
  obtain ⟨d, es, n, hm, D, h1, h2⟩ := (hX.tb _ m ne fs e).ex
  obtain ⟨g, d1, d2⟩ := hX.gl hg
  have nsv : ∀ s, ∃ r, PySem.W.nsIn X.K d s = some r ∧ r.isSome = (fs.lookup s).isSome := fun s => by
    cases e : fs.lookup s with
    | none => exact ⟨none, h2 s e, rfl⟩
    | some f =>
      obtain ⟨a, ha, _⟩ := h1 s f e
      exact ⟨_, ha, rfl⟩
  cases ng with
  | false =>
    cases p <;> first | cases hp | skip
    have key : ∀ σ H Q, liftE C (wE cl co EX (.tin false t fs a)) σ H Q → tOp (fun x y H Q => ∃ (z : Str) (r : Option Value), x = .str z ∧ y = .ref d ∧ PySem.W.nsIn X.K d z = some r ∧ Q (.bl r.isSome) H) (liftE C (wE cl co EX a)) (tC (.ref d)) σ H Q := fun σ H Q ⟨ev, hp, I, h⟩ => by
      simp only [wE, wr] at h
      refine ⟨ev, hp, I, wE_mono hX.cm a _ _ _ _ (strK_cont fun s hp1 h1 H1 I1 k1 => ?_) h⟩
      obtain ⟨r, e1, e2⟩ := nsv s
      refine ⟨s, r, rfl, rfl, e1, ?_⟩
      rw [e2]
      exact cont.hereD I1 (cont.back k1 _ _ h1) (.bl _)
    exact ⟨PE.imp (pe_cmpR (op_in_kd D) ha (pe_glob g hm (v := .ref d) rfl d1) rfl) key, pt_test (wE_mono hX.cm _) (pt_cmpR (op_in_kd D) ha (pe_glob g hm (v := .ref d) rfl d1) rfl) key⟩
  | true =>
    cases p <;> first | cases hp | skip
    have key : ∀ σ H Q, liftE C (wE cl co EX (.tin true t fs a)) σ H Q → tOp (fun x y H Q => ∃ (z : Str) (r : Option Value), x = .str z ∧ y = .ref d ∧ PySem.W.nsIn X.K d z = some r ∧ Q (.bl (!r.isSome)) H) (liftE C (wE cl co EX a)) (tC (.ref d)) σ H Q := fun σ H Q ⟨ev, hp, I, h⟩ => by
      simp only [wE, wr] at h
      refine ⟨ev, hp, I, wE_mono hX.cm a _ _ _ _ (strK_cont fun s hp1 h1 H1 I1 k1 => ?_) h⟩
      obtain ⟨r, e1, e2⟩ := nsv s
      refine ⟨s, r, rfl, rfl, e1, ?_⟩
      rw [e2]
      exact cont.hereD I1 (cont.back k1 _ _ h1) (.bl _)
    exact ⟨PE.imp (pe_cmpR (op_notIn_kd D) ha (pe_glob g hm (v := .ref d) rfl d1) rfl) key, pt_test (wE_mono hX.cm _) (pt_cmpR (op_notIn_kd D) ha (pe_glob g hm (v := .ref d) rfl d1) rfl) key⟩
theorem e_tix (hX : XOk c X C cl co EX) {t : Str} {fs : List (Str × Str)} {a : Ex} {x : Expr} {q pos : Pos} (hg : glB c t = true) (ht : hasTb c t fs = true) (hs : notSl x = true)
    (ha : PE X x (liftE C (wE cl co EX a))) : PE X (.Subscript (.Name t q) x pos) (liftE C (wE cl co EX (.tix t fs a))) := by
  obtain ⟨dv, m, ne, e⟩ := hasTb_mem ht
  obtain ⟨d, es, n, hm, D, h1, h2⟩ := (hX.tb _ m ne fs e).ex
  obtain ⟨g, d1, d2⟩ := hX.gl hg
  refine PE.imp (pe_ix ix_kdict (pe_glob g hm (v := .ref d) rfl d1) ha (plain_ix hs)) fun σ H Q ⟨ev, hp, I, h⟩ => ?_
  simp only [wE, wr] at h
  refine ⟨ev, hp, I, wE_mono hX.cm a _ _ _ _ (strK_cont fun s hp1 q1 H1 I1 k1 => ?_) h⟩
  obtain ⟨f, ef, q1⟩ := onSome_iff.mp q1
  obtain ⟨u, e1, e2⟩ := h1 s f ef
  refine ⟨d, s, .ref u, rfl, rfl, ⟨es, n, .ref u, D.at_, D.lit, e1, rfl⟩, ?_⟩
  exact cont.hereD I1 (cont.back k1 _ _ q1) (.fn (by rw [hX.mg]; exact e2))
/-- a call of what a slot holds -/
theorem pe_callV {i : Nat} {x : Str} {p pos : Pos} {e : Expr} {es : List Expr} {t : Addr → TA} {E : L2.St → XK} (hG : NoGd X.A) (hN : X.N[i]? = some x) (hv : Vis X.env.scope x) (hdb : (x == ("__debug__" : Str)) = false) (hcd : (x == ("__classdict__" : Str)) = false)
    (hx : ∀ σ, PassesAt (L2.CX X.prog X.w) X σ (E σ)) (ha : ∀ a, PA X (e :: es) (t a)) (he : starEach (e :: es) X.env = (false, eval e X.env) :: starEach es X.env) (hpl : (backTo pos (starEach es X.env)).any (·.1) = false) :
    PE X (.Call (.Name x p) (e :: es) [] pos) (fun σ H Q => ∃ (a : Addr) (k : Nat) (fd : FuncData) (ps : List Str) (sp : Sp), σ[i]? = some (some (.ref a)) ∧ FnG X.prog X.w X.K X.mg X.base (L2.CX X.prog X.w) k a fd ps sp ∧ Room k X.A ∧ PySem.W.keepIn X.K (.ref a) = true ∧ Binds X.K fd ps [] ∧
      t a σ H fun vs H1 => sp vs H1 Q (E σ)) := ⟨fun pins s σ H Q I ⟨a, k, fd, ps, sp, hs, F, hr, hk, hb, h⟩ => by
  refine wpAny_Call_Name_kw (thn ((pe_var (pos := p) hN hv hdb hcd).run pins s σ H (fun v H1 => v = .ref a ∧ H1 = H) I ⟨.ref a, hs, rfl, rfl⟩) fun u s1 ⟨v, H1, I1, r1, q1⟩ => ?_)
  obtain ⟨rfl, rfl⟩ := q1
  cases r1
  refine PySem.W.callWith_K (h₀ := X.base) I.ok.mod.kin hk (thn ((ha a).run pos pins s1 σ _ _ I1 h) fun us s2 ⟨vs, H2, I2, r, q⟩ => ⟨I2.kIn, ?_⟩) he hpl
  exact run_fnG F hr hG hb .nil (hx σ) I2 r (by rw [List.append_nil]; exact q)⟩
theorem e_callv (hX : XOk c X C cl co EX) {i : Nat} {fl : List Str} {x : Str} {l : List Ex} {e : Expr} {es : List Expr} {q pos : Pos} (hN : c.N[i]? = some x) (hv : visB c x = true) (hf : ∀ f ∈ fl, f ∈ c.fs)
    (pl : ∀ u ∈ e :: es, plainE u = true) (hA : PA X (e :: es) (liftA C (fun ev hp Q => was cl co l ev hp Q (EX ev)))) :
    PE X (.Call (.Name x q) (e :: es) [] pos) (liftE C (wE cl co EX (.callv i fl l))) := by
  obtain ⟨v1, v2, v3⟩ := hX.vis hv
  refine PE.imp (pe_callV (t := fun _ => liftA C (fun ev hp Q => was cl co l ev hp Q (EX ev))) (E := EL C EX) hX.gd (by rw [hX.N]; exact hN) v1 v2 v3 hX.passes (fun _ => hA) (star_of (pl e List.mem_cons_self)) (stars_of fun u hu => pl u (List.mem_cons_of_mem _ hu))) fun σ H Q ⟨ev, hp, I, h⟩ => ?_
  simp only [wE, wr] at h
  obtain ⟨f, ef, hfl, h⟩ := h
  obtain ⟨k, a, fd, ps, F, hr, hm', hk, hb, hdf⟩ := (hX.fn f (hf f hfl)).ex
  obtain ⟨v, hv, r⟩ := I.slot i _ ef
  obtain ⟨a', rfl, em⟩ := rep_fn (show Rep C.K C.mg _ _ (.fn f) v from r)
  rw [hX.mg] at em
  rw [hm'] at em
  cases em
  refine ⟨a, k, fd, ps, _, hv, F, hr, hk, hb, ev, hp, I, was_mono hX.cm l _ _ _ _ _ _ ?_ (fun _ _ _ z => z) h⟩
  intro ds hp1 h1 vs H1 I1 k1 r1
  refine ⟨ds, hp1, fun a => Pt.own ⟨ev, σ, hp1, H1⟩ a ∨ C.G a, I1.down, ?_, hX.cm _ _ _ _ _ _ _ ?_ ?_ h1⟩
  · show Reps C.K C.mg H1 (Fb (inC C ⟨ev, σ, hp1, H1⟩) (p0 hp1 H1)) ds vs
    rw [Fb_in]; exact r1
  · intro x hp2 h2 v H2 I2 k2 r2 f2
    obtain ⟨I2', k2'⟩ := I1.back I2 k2
    exact cont.back k1 _ _ h2 v H2 I2' k2' (RepB.up r2).1 (New.at0 I1 I2' k2' f2)
  · intro cn fs hp2 h2 cls d H2 I2 k2 er
    exact ⟨ev, hp2, cn, fs, (I1.back I2 k2).1, ExR.up er, h2⟩
end
end Mi

namespace Mi
open PySem PySem.Spec PyProof.Rows L2
section
variable {c : Ctx} {X : Cx} {C : BC} {cl : CallT} {co : ConT} {EX : Ev → EK}
theorem l_nil (hX : XOk c X C cl co EX) : SL X C cl co EX [] [] where
  pa := PA.imp pa_nil fun σ H Q ⟨ev, hp, I, q⟩ => by
    simp only [was] at q
    exact q [] H I (KE.refl _) .nil
  pl := fun e he => nomatch he
  nl := fun _ => rfl
theorem l_cons (hX : XOk c X C cl co EX) {a : Ex} {l : List Ex} {e : Expr} {es : List Expr} (pe : plainE e = true) (ha : SE X C cl co EX a e) (hl : SL X C cl co EX l es) : SL X C cl co EX (a :: l) (e :: es) where
  pa := PA.imp (pa_cons ha.pe hl.pa (star_of pe)) fun σ H Q ⟨ev, hp, I, q⟩ => by
    simp only [was] at q
    refine ⟨ev, hp, I, wE_mono hX.cm a _ _ _ _ (valK_cont I fun d hp1 q1 v H1 I1 k1 r1 => ?_) q⟩
    refine ⟨ev, hp1, I1, was_mono hX.cm l _ _ _ _ _ _ ?_ (fun _ _ _ z => z) q1⟩
    intro ds hp2 q2 vs H2 I2 k2 r2
    exact q2 (v :: vs) H2 I2 (k1.trans k2) (.cons (RepP.ke k2 r1) r2)
  pl := fun u hu => by
    rcases List.mem_cons.mp hu with rfl | hu
    · exact pe
    · exact hl.pl u hu
  nl := fun z => nomatch z
/-- a part of a slice -/
theorem o_part (hX : XOk c X C cl co EX) {lo : Ex} {l : Option Expr} (h : (match l with
      | none => nonM lo
      | some l => !nonM lo && chkE c lo l) = true) (he : ∀ e, chkE c lo e = true → PE X e (liftE C (wE cl co EX lo))) :
    ∃ t, PO X l t ∧ ∀ σ H (Q : Option Int → Hp → Prop) ev hp, I3 C ⟨ev, σ, hp, H⟩ → prtK lo hp (fun Q => wr cl co lo ev hp Q (EX ev)) (fun o hp' => ∀ H', I3 C ⟨ev, σ, hp', H'⟩ → KE ⟨ev, σ, hp, H⟩ ⟨ev, σ, hp', H'⟩ → Q o H') → t σ H Q := by
  cases l with
  | none =>
    obtain rfl := nonM_eq h
    exact ⟨_, po_none, fun σ H Q ev hp I q => q H I (KE.refl _)⟩
  | some e =>
    have h' : (!nonM lo && chkE c lo e) = true := h
    simp only [Bool.and_eq_true, Bool.not_eq_true'] at h'
    refine ⟨_, po_some (he e h'.2), fun σ H Q ev hp I q => ⟨ev, hp, I, ?_⟩⟩
    have q' : wr cl co lo ev hp (intK fun i hp' => ∀ H', I3 C ⟨ev, σ, hp', H'⟩ → KE ⟨ev, σ, hp, H⟩ ⟨ev, σ, hp', H'⟩ → Q (some i) H') (EX ev) := by
      have z := h'.1
      clear h h' he
      cases lo <;> first | exact q | cases z
    exact wE_mono hX.cm lo _ _ _ _ (intK_cont fun i hp1 q1 H1 I1 k1 => ⟨i, rfl, q1 H1 I1 k1⟩) q'
/-- what stands in a for, a comprehension -/
def SI (X : Cx) (C : BC) (cl : CallT) (co : ConT) (EX : Ev → EK) (it : It) (e : Expr) : Prop := ∀ b tge, tgI it tge = true → PI X tge e (liftI b C (fun ev hp Q => wi cl co it b ev hp Q (EX ev)))
theorem grd_of {hp : HpD} {x : SV} {l : List D} (h : seqD hp x = some l) : grd l x hp := by
  cases x with
  | ol m => trivial
  | od m => trivial
  | d x =>
    cases x with
    | ref a =>
      have h' : (match hp a with | some (.lst l) => some l | _ => none) = some l := h
      show hp a = some (.lst l)
      split at h'
      · rename_i e; cases h'; exact e
      · cases h'
    | _ => trivial
theorem i_any (hX : XOk c X C cl co EX) {a : Ex} {e : Expr} (ca : chkE c a e = true) (ha : PE X e (liftE C (wE cl co EX a))) : SI X C cl co EX (.e a) e := fun b tge _ => by
  have fin : ∀ {p : Pt} {x : SV} {hp1 : HpD} {v : V} {H1 : Hp} {R : L2.It → Hp → Prop}, srcK (contI b C p R) x hp1 → I3 C (p.wh hp1 H1) → KE p (p.wh hp1 H1) → RepB C (p.wh hp1 H1) x v → (b = false → Fresh (p.wh hp1 H1) x v) →
      (∃ a, v = .ref a ∧ (((∃ xs, SqL X.K H1 a xs) ∧ R (Itl X.K a) H1) ∨ ((∃ xs, SqT X.K H1 a xs) ∧ R (Itt X.K a) H1))) ∨ ∃ z, v = .str z ∧ R (Its z) H1 := fun {p x hp1 v H1 R} q I1 k1 r1 f1 => by
    unfold srcK at q
    split at q
    · rename_i z
      rw [RepB.str r1]
      exact .inr ⟨z, rfl, q _ _ I1 k1 (walk_str z) trivial⟩
    · obtain ⟨l, hl, q⟩ := onSome_iff.mp q
      obtain ⟨u, rfl, h⟩ := walk_seq (b := b) (X := X) (p0 := p.wh hp1 H1) I1 hX.K hl r1 f1
      refine .inl ⟨u, rfl, ?_⟩
      rcases h with ⟨h1, h2⟩ | ⟨h1, h2⟩
      · exact .inl ⟨h1, q _ _ I1 k1 h2 (grd_of hl)⟩
      · exact .inr ⟨h1, q _ _ I1 k1 h2 (grd_of hl)⟩
  cases b with
  | true =>
    refine PI.imp (pi_any (sB hX ca ha)) fun σ H R ⟨ev, hp, I, q⟩ => ?_
    simp only [wi, borB] at q
    refine ⟨ev, hp, I, wB_mono hX.cm a _ _ _ _ ?_ q⟩
    intro x hp1 q1 v H1 I1 k1 r1
    exact fin q1 I1 k1 r1 nofun
  | false =>
    refine PI.imp (pi_any ha) fun σ H R ⟨ev, hp, I, q⟩ => ?_
    simp only [wi, borB] at q
    refine ⟨ev, hp, I, wE_mono hX.cm a _ _ _ _ ?_ q⟩
    intro x hp1 q1 v H1 I1 k1 r1 f1
    exact fin q1 I1 k1 r1 fun _ => (f1.fresh I).ke k1
theorem enumD_len : ∀ (l : List D) (i : Int), (enumD i l).length = l.length
  | [], _ => rfl
  | x :: r, i => by simp [enumD, enumD_len r]
theorem enumD_get : ∀ (l : List D) (lo : Int) (i : Nat) (z : D), (enumD lo l)[i]? = some z → ∃ x, l[i]? = some x ∧ z = .tup [.int (lo + i), x]
  | [], lo, i, z, h => by simp [enumD] at h
  | x :: r, lo, 0, z, h => by simp [enumD] at h; exact ⟨x, rfl, by rw [← h]; simp⟩
  | x :: r, lo, i + 1, z, h => by
    simp only [enumD, List.getElem?_cons_succ] at h
    obtain ⟨y, h1, h2⟩ := enumD_get r (lo + 1) i z h
    exact ⟨y, by simpa using h1, by rw [h2]; congr 2; congr 1; push_cast; omega⟩
theorem walk_enumL {b : Bool} {K : PySem.W.Frag} {p0 : Pt} {l : List D} {a : Addr} {g : HpD → Prop} (w : WalkJ b C (Itl K a) p0 ⟨l, g⟩) : WalkJ b C (Ite K a) p0 ⟨enumD 0 l, g⟩ where
  go := fun C' p i z c I k g hz => by
    obtain ⟨x, hx, rfl⟩ := enumD_get _ _ _ _ hz
    obtain ⟨g1, g2⟩ := w.go C' p i x c I k g hx
    refine ⟨g1, fun v H' ⟨T, u, e1, hn, e2, e3⟩ => ?_⟩
    subst e1 e2
    obtain ⟨_, _, r⟩ := g2 u p.H ⟨rfl, e3⟩
    have r : RepP C' p x u := r
    rw [Int.zero_add]
    exact ⟨(I.laid hn).1, (I.laid hn).2, I.newT hn (.cons (.int _) (.cons r .nil))⟩
  stop := fun C' p i c I k g hi => w.stop C' p i c I k g (by simpa [enumD_len] using hi)
theorem walk_enumT {b : Bool} {K : PySem.W.Frag} {p0 : Pt} {l : List D} {a : Addr} {g : HpD → Prop} (w : WalkJ b C (Itt K a) p0 ⟨l, g⟩) : WalkJ b C (IteT K a) p0 ⟨enumD 0 l, g⟩ where
  go := fun C' p i z c I k g hz => by
    obtain ⟨x, hx, rfl⟩ := enumD_get _ _ _ _ hz
    obtain ⟨g1, g2⟩ := w.go C' p i x c I k g hx
    refine ⟨g1, fun v H' ⟨T, u, e1, hn, e2, e3⟩ => ?_⟩
    subst e1 e2
    obtain ⟨_, _, r⟩ := g2 u p.H ⟨rfl, e3⟩
    have r : RepP C' p x u := r
    rw [Int.zero_add]
    exact ⟨(I.laid hn).1, (I.laid hn).2, I.newT hn (.cons (.int _) (.cons r .nil))⟩
  stop := fun C' p i c I k g hi => w.stop C' p i c I k g (by simpa [enumD_len] using hi)
theorem i_en (hX : XOk c X C cl co EX) {a : Ex} {e : Expr} {p pos : Pos} (hb : biB c "enumerate" = true) (pe : plainE e = true) (ca : chkE c a e = true) (ha : PE X e (liftE C (wE cl co EX a))) : SI X C cl co EX (.en a) (.Call (.Name "enumerate" p) [e] [] pos) := fun b tge ht => by
  obtain ⟨g, m, d1, d2⟩ := hX.blt hb
  have fin : ∀ {p : Pt} {x : SV} {hp1 : HpD} {v : V} {H1 : Hp} {R : L2.It → Hp → Prop}, (onSome (seqD hp1 x) fun l => contI b C p R ⟨enumD 0 l, grd l x⟩ hp1) → I3 C (p.wh hp1 H1) → KE p (p.wh hp1 H1) → RepB C (p.wh hp1 H1) x v → (b = false → Fresh (p.wh hp1 H1) x v) →
      ∃ a, [v] = [.ref a] ∧ ((∃ xs, SqL X.K H1 a xs ∧ R (Ite X.K a) H1) ∨ ∃ xs, SqT X.K H1 a xs ∧ R (IteT X.K a) H1) := fun {p x hp1 v H1 R} q I1 k1 r1 f1 => by
    obtain ⟨l, hl, q⟩ := onSome_iff.mp q
    obtain ⟨u, rfl, h⟩ := walk_seq (b := b) (X := X) (p0 := p.wh hp1 H1) I1 hX.K hl r1 f1
    refine ⟨u, rfl, ?_⟩
    rcases h with ⟨⟨xs, h1⟩, h2⟩ | ⟨⟨xs, h1⟩, h2⟩
    · exact .inl ⟨xs, h1, q _ _ I1 k1 (walk_enumL h2) (grd_of hl)⟩
    · exact .inr ⟨xs, h1, q _ _ I1 k1 (walk_enumT h2) (grd_of hl)⟩
  cases tge with
  | Tuple elts kk tpos =>
    cases b with
    | true =>
      refine PI.imp (pi_enumQ g m (pa_cons (sB hX ca ha) pa_nil (star_of pe)) (star_of pe)) fun σ H R ⟨ev, hp, I, q⟩ => ?_
      simp only [wi, borB] at q
      refine ⟨ev, hp, I, wB_mono hX.cm a _ _ _ _ ?_ q⟩
      intro x hp1 q1 v H1 I1 k1 r1
      exact fin q1 I1 k1 r1 nofun
    | false =>
      refine PI.imp (pi_enumQ g m (pa_cons ha pa_nil (star_of pe)) (star_of pe)) fun σ H R ⟨ev, hp, I, q⟩ => ?_
      simp only [wi, borB] at q
      refine ⟨ev, hp, I, wE_mono hX.cm a _ _ _ _ ?_ q⟩
      intro x hp1 q1 v H1 I1 k1 r1 f1
      exact fin q1 I1 k1 r1 fun _ => (f1.fresh I).ke k1
  | _ => cases ht
theorem zipD_get : ∀ (l m : List D) (i : Nat) (z : D), (zipD l m)[i]? = some z → ∃ x y, l[i]? = some x ∧ m[i]? = some y ∧ z = .tup [x, y]
  | [], m, i, z, h => by simp [zipD] at h
  | _ :: _, [], i, z, h => by simp [zipD] at h
  | x :: r, y :: s, 0, z, h => by simp [zipD] at h; exact ⟨x, y, rfl, rfl, h.symm⟩
  | x :: r, y :: s, i + 1, z, h => by
    simp only [zipD, List.getElem?_cons_succ] at h ⊢
    exact zipD_get r s i z h
theorem zipD_end : ∀ (l m : List D) (i : Nat), (zipD l m).length ≤ i → l.length ≤ i ∨ m.length ≤ i
  | [], m, i, h => .inl (Nat.zero_le _)
  | _ :: _, [], i, h => .inr (Nat.zero_le _)
  | x :: r, y :: s, i, h => by
    simp only [zipD, List.length_cons] at h ⊢
    rcases zipD_end r s (i - 1) (by omega) with z | z
    · exact .inl (by omega)
    · exact .inr (by omega)
theorem walk_zipL {b : Bool} {K : PySem.W.Frag} {p0 : Pt} {l m : List D} {u v : Addr} {g g' : HpD → Prop} (w : WalkJ b C (Itl K u) p0 ⟨l, g⟩) (w' : WalkJ b C (Itl K v) p0 ⟨m, g'⟩) : WalkJ b C (Itz K u v) p0 ⟨zipD l m, fun hp => g hp ∧ g' hp⟩ where
  go := fun C' p i z c I k g hz => by
    obtain ⟨x, y, hx, hy, rfl⟩ := zipD_get _ _ _ _ hz
    obtain ⟨⟨xs, x', s1, e1⟩, g2⟩ := w.go C' p i x c I k g.1 hx
    obtain ⟨⟨ys, y', s2, e2⟩, g3⟩ := w'.go C' p i y c I k g.2 hy
    refine ⟨⟨xs, ys, x', y', s1, s2, e1, e2⟩, fun v H' ⟨T, u1, u2, q1, hn, q2, q3, q4⟩ => ?_⟩
    subst q1 q2
    obtain ⟨_, _, r⟩ := g2 u1 p.H ⟨rfl, q3⟩
    obtain ⟨_, _, r'⟩ := g3 u2 p.H ⟨rfl, q4⟩
    exact ⟨(I.laid hn).1, (I.laid hn).2, I.newT hn (.cons r (.cons r' .nil))⟩
  stop := fun C' p i c I k g hi => by
    have hi : (zipD l m).length ≤ i := hi
    rcases zipD_end l m i hi with z | z
    · obtain ⟨xs, s1, e1⟩ := w.stop C' p i c I k g.1 z
      obtain ⟨ys, s2, _⟩ := w'.stop C' p (m.length) c I k g.2 (Nat.le_refl _)
      exact ⟨xs, ys, s1, s2, .inl e1⟩
    · obtain ⟨xs, s1, _⟩ := w.stop C' p (l.length) c I k g.1 (Nat.le_refl _)
      obtain ⟨ys, s2, e2⟩ := w'.stop C' p i c I k g.2 z
      exact ⟨xs, ys, s1, s2, .inr e2⟩
theorem walk_zipT {b : Bool} {K : PySem.W.Frag} {p0 : Pt} {l m : List D} {u v : Addr} {g g' : HpD → Prop} (w : WalkJ b C (Itt K u) p0 ⟨l, g⟩) (w' : WalkJ b C (Itt K v) p0 ⟨m, g'⟩) : WalkJ b C (RZ.ItzT K u v) p0 ⟨zipD l m, fun hp => g hp ∧ g' hp⟩ where
  go := fun C' p i z c I k g hz => by
    obtain ⟨x, y, hx, hy, rfl⟩ := zipD_get _ _ _ _ hz
    obtain ⟨⟨xs, x', s1, e1⟩, g2⟩ := w.go C' p i x c I k g.1 hx
    obtain ⟨⟨ys, y', s2, e2⟩, g3⟩ := w'.go C' p i y c I k g.2 hy
    refine ⟨⟨xs, ys, x', y', s1, s2, e1, e2⟩, fun v H' ⟨T, u1, u2, q1, hn, q2, q3, q4⟩ => ?_⟩
    subst q1 q2
    obtain ⟨_, _, r⟩ := g2 u1 p.H ⟨rfl, q3⟩
    obtain ⟨_, _, r'⟩ := g3 u2 p.H ⟨rfl, q4⟩
    exact ⟨(I.laid hn).1, (I.laid hn).2, I.newT hn (.cons r (.cons r' .nil))⟩
  stop := fun C' p i c I k g hi => by
    have hi : (zipD l m).length ≤ i := hi
    rcases zipD_end l m i hi with z | z
    · obtain ⟨xs, s1, e1⟩ := w.stop C' p i c I k g.1 z
      obtain ⟨ys, s2, _⟩ := w'.stop C' p (m.length) c I k g.2 (Nat.le_refl _)
      exact ⟨xs, ys, s1, s2, .inl e1⟩
    · obtain ⟨xs, s1, _⟩ := w.stop C' p (l.length) c I k g.1 (Nat.le_refl _)
      obtain ⟨ys, s2, e2⟩ := w'.stop C' p i c I k g.2 z
      exact ⟨xs, ys, s1, s2, .inr e2⟩
theorem lst_seq {hp : HpD} {x : SV} {l : List D} (h : lstD hp x = some l) : seqD hp x = some l := by
  cases x with
  | ol m => exact h
  | od m => cases h
  | d x => cases x <;> first | exact h | cases h
theorem i_zp (hX : XOk c X C cl co EX) {a a' : Ex} {e e' : Expr} {p pos : Pos} (hb : biB c "zip" = true) (pe : plainE e = true) (pe' : plainE e' = true) (ca : chkE c a e = true) (ca' : chkE c a' e' = true) (ha : PE X e (liftE C (wE cl co EX a))) (ha' : PE X e' (liftE C (wE cl co EX a'))) :
    SI X C cl co EX (.zp a a') (.Call (.Name "zip" p) [e, e'] [] pos) := fun b tge ht => by
  obtain ⟨g, m, d1, d2⟩ := hX.blt hb
  have s2 : starEach [e'] X.env = [(false, eval e' X.env)] := star_of pe'
  have s1 : starEach [e, e'] X.env = [(false, eval e X.env), (false, eval e' X.env)] := by rw [star_of pe, s2]
  have fin : ∀ {p : Pt} {x y : SV} {hp1 : HpD} {v u : V} {H1 : Hp} {R : L2.It → Hp → Prop}, (zipK x y hp1 ∧ onSome (seqD hp1 x) fun l => onSome (seqD hp1 y) fun m => contI b C p R ⟨zipD l m, fun hp => grd l x hp ∧ grd m y hp⟩ hp1) → I3 C (p.wh hp1 H1) → KE p (p.wh hp1 H1) → RepB C (p.wh hp1 H1) x v → (b = false → Fresh (p.wh hp1 H1) x v) → RepB C (p.wh hp1 H1) y u → (b = false → Fresh (p.wh hp1 H1) y u) →
      ∃ a b' xs ys, [v, u] = [.ref a, .ref b'] ∧ ((SqL X.K H1 a xs ∧ SqL X.K H1 b' ys ∧ R (Itz X.K a b') H1) ∨ (SqT X.K H1 a xs ∧ SqT X.K H1 b' ys ∧ R (RZ.ItzT X.K a b') H1)) := fun {p x y hp1 v u H1 R} q I1 k1 r1 f1 r2 f2 => by
    obtain ⟨hk, q⟩ := q
    obtain ⟨l, hl, q⟩ := onSome_iff.mp q
    obtain ⟨m, hm, q⟩ := onSome_iff.mp q
    rcases hk with ⟨l', m', rfl, rfl⟩ | ⟨z1, z2⟩
    · have hl' : l' = l := Option.some.inj (show some l' = some l from hl)
      have hm' : m' = m := Option.some.inj (show some m' = some m from hm)
      subst hl' hm'
      obtain ⟨a1, rfl, ⟨xs, q1⟩, w1⟩ := walk_tup (b := b) (X := X) (p0 := p.wh hp1 H1) hX.K r1 f1
      obtain ⟨a2, rfl, ⟨ys, q2⟩, w2⟩ := walk_tup (b := b) (X := X) (p0 := p.wh hp1 H1) hX.K r2 f2
      exact ⟨a1, a2, xs, ys, rfl, .inr ⟨q1, q2, q _ _ I1 k1 (walk_zipT w1 w2) ⟨grd_of hl, grd_of hm⟩⟩⟩
    · obtain ⟨l', e1⟩ := Option.isSome_iff_exists.mp z1
      obtain ⟨m', e2⟩ := Option.isSome_iff_exists.mp z2
      have el : l' = l := Option.some.inj ((lst_seq e1).symm.trans hl)
      have em : m' = m := Option.some.inj ((lst_seq e2).symm.trans hm)
      subst el em
      obtain ⟨a1, rfl, ⟨xs, q1⟩, w1⟩ := walk_lst (b := b) (X := X) (p0 := p.wh hp1 H1) I1 hX.K e1 r1 f1
      obtain ⟨a2, rfl, ⟨ys, q2⟩, w2⟩ := walk_lst (b := b) (X := X) (p0 := p.wh hp1 H1) I1 hX.K e2 r2 f2
      exact ⟨a1, a2, xs, ys, rfl, .inl ⟨q1, q2, q _ _ I1 k1 (walk_zipL w1 w2) ⟨grd_of hl, grd_of hm⟩⟩⟩
  have hpl : (backTo pos (starEach [e'] X.env)).any (·.1) = false := by rw [s2]; rfl
  cases tge with
  | Tuple elts kk tpos =>
    cases b with
    | true =>
      refine PI.imp (RZ.pi_zipA g m (pa_cons (sB hX ca ha) (pa_cons (sB hX ca' ha') pa_nil (star_of pe')) (star_of pe)) (star_of pe) hpl) fun σ H R ⟨ev, hp, I, q⟩ => ?_
      simp only [wi, borB] at q
      refine ⟨ev, hp, I, wB_mono hX.cm a _ _ _ _ ?_ q⟩
      intro x hp1 q1 v H1 I1 k1 r1
      refine ⟨ev, hp1, I1, wB_mono hX.cm a' _ _ _ _ ?_ q1⟩
      intro y hp2 q2 u H2 I2 k2 r2
      exact fin q2 I2 (k1.trans k2) (r1.keC k2 (CLe.refl _ _)) nofun r2 nofun
    | false =>
      refine PI.imp (RZ.pi_zipA g m (pa_cons ha (pa_cons ha' pa_nil (star_of pe')) (star_of pe)) (star_of pe) hpl) fun σ H R ⟨ev, hp, I, q⟩ => ?_
      simp only [wi, borB] at q
      refine ⟨ev, hp, I, wE_mono hX.cm a _ _ _ _ ?_ q⟩
      intro x hp1 q1 v H1 I1 k1 r1 f1
      refine ⟨ev, hp1, I1, wE_mono hX.cm a' _ _ _ _ ?_ q1⟩
      intro y hp2 q2 u H2 I2 k2 r2 f2
      exact fin q2 I2 (k1.trans k2) (r1.keC k2 (CLe.refl _ _)) (fun _ => ((f1.fresh I).ke k1).ke k2) r2 fun _ => (f2.fresh I1).ke k2
  | _ => cases ht
theorem str_name {x : Str} (h : x = ("range" : Str)) : x = "range" := h
theorem i_rg1 (hX : XOk c X C cl co EX) {a : Ex} {e : Expr} {p pos : Pos} (hb : biB c "range" = true) (pe : plainE e = true) (ha : PE X e (liftE C (wE cl co EX a))) : SI X C cl co EX (.rg1 a) (.Call (.Name "range" p) [e] [] pos) := fun b tge _ => by
  obtain ⟨g, m, d1, d2⟩ := hX.blt hb
  refine PI.imp (pi_range1 g m (pa_cons ha pa_nil (star_of pe)) (star_of pe)) fun σ H R ⟨ev, hp, I, q⟩ => ?_
  simp only [wi] at q
  refine ⟨ev, hp, I, wE_mono hX.cm a _ _ _ _ (intK_cont fun i hp1 q1 H1 I1 k1 => ?_) q⟩
  exact ⟨i, rfl, q1.1.1, q1.1.2, q1.2 _ _ I1 k1 (by have := walk_range (b := b) (C := C) (p0 := ⟨ev, σ, hp1, H1⟩) 0 i.toNat; simpa using this) trivial⟩
theorem i_rg2 (hX : XOk c X C cl co EX) {a a' : Ex} {e e' : Expr} {p pos : Pos} (hb : biB c "range" = true) (pe : plainE e = true) (pe' : plainE e' = true) (ha : PE X e (liftE C (wE cl co EX a))) (ha' : PE X e' (liftE C (wE cl co EX a'))) :
    SI X C cl co EX (.rg2 a a') (.Call (.Name "range" p) [e, e'] [] pos) := fun b tge _ => by
  obtain ⟨g, m, d1, d2⟩ := hX.blt hb
  have s2 : starEach [e'] X.env = [(false, eval e' X.env)] := star_of pe'
  have s1 : starEach [e, e'] X.env = [(false, eval e X.env), (false, eval e' X.env)] := by rw [star_of pe, s2]
  refine PI.imp (pi_range2 g m (pa_cons ha (pa_cons ha' pa_nil (star_of pe')) (star_of pe)) s1 s2) fun σ H R ⟨ev, hp, I, q⟩ => ?_
  simp only [wi] at q
  refine ⟨ev, hp, I, wE_mono hX.cm a _ _ _ _ (intK_cont fun i hp1 q1 H1 I1 k1 => ?_) q⟩
  refine ⟨ev, hp1, I1, wE_mono hX.cm a' _ _ _ _ (intK_cont fun j hp2 q2 H2 I2 k2 => ?_) q1⟩
  exact ⟨i, j, rfl, q2.1, q2.2 _ _ I2 (k1.trans k2) (walk_range i _) trivial⟩
theorem i_rg3 (hX : XOk c X C cl co EX) {a a' : Ex} {e e' : Expr} {p pos p1 p2 : Pos} {k : Nat} (hb : biB c "range" = true) (pe : plainE e = true) (pe' : plainE e' = true) (ha : PE X e (liftE C (wE cl co EX a))) (ha' : PE X e' (liftE C (wE cl co EX a'))) :
    SI X C cl co EX (.rg3 a a') (.Call (.Name "range" p) [e, e', .UnaryOp .USub (.Constant (.int 1) k p1) p2] [] pos) := fun b tge _ => by
  obtain ⟨g, m, d1, d2⟩ := hX.blt hb
  refine PI.imp (pi_range3 g m (pa_cons ha (pa_cons ha' (pa_cons (pe_un un_neg pe_int) pa_nil rfl) (star_of pe')) (star_of pe)) (star_of pe) (by rw [star_of pe']; rfl)) fun σ H R ⟨ev, hp, I, q⟩ => ?_
  simp only [wi] at q
  refine ⟨ev, hp, I, wE_mono hX.cm a _ _ _ _ (intK_cont fun i hp1 q1 H1 I1 k1 => ?_) q⟩
  refine ⟨ev, hp1, I1, wE_mono hX.cm a' _ _ _ _ (intK_cont fun j hp2 q2 H2 I2 k2 => ?_) q1⟩
  obtain ⟨⟨b1, b2, b3, b4⟩, q3⟩ := q2
  refine ⟨1, rfl, i, j, -1, _, rfl, RgC.neg (by omega) (by omega) (by omega) (by omega), ?_⟩
  exact q3 _ _ I2 (k1.trans k2) (walk_down i _) trivial
end
theorem chkL_len {c : Ctx} : ∀ {l : List Ex} {es : List Expr}, chkL c l es = true → es.length = l.length
  | [], es, h => by
    simp only [chkL] at h
    split at h
    · rfl
    · cases h
  | a :: r, es, h => by
    simp only [chkL] at h
    split at h
    · simp only [Bool.and_eq_true] at h
      simp [chkL_len h.2]
    · cases h
mutual
theorem sE {cl : CallT} {co : ConT} : ∀ (m : Ex) {c : Ctx} {X : Cx} {C : BC} {EX : Ev → EK} (hX : XOk c X C cl co EX) {e : Expr}, chkE c m e = true → SE X C cl co EX m e
  | .v i, c, X, C, EX, hX, e, h => s_v hX h
  | .int i, c, X, C, EX, hX, e, h => s_int hX h
  | .bl i, c, X, C, EX, hX, e, h => s_bl hX h
  | .non, c, X, C, EX, hX, e, h => s_non hX h
  | .str i, c, X, C, EX, hX, e, h => s_str hX h
  | .g x, c, X, C, EX, hX, e, h => s_g hX h
  | .tup l, c, X, C, EX, hX, e, h => by
    simp only [chkE] at h
    split at h
    · simp only [Bool.and_eq_true, decide_eq_true_eq] at h
      exact s_pl hX (e_tup hX h.1 (sL l hX h.2).pa fun ev hp Q => was_len hX.cm l ev hp Q _) (fun _ => rfl) rfl
    · cases h
  | .lst l, c, X, C, EX, hX, e, h => by
    simp only [chkE] at h
    split at h
    · simp only [Bool.and_eq_true, decide_eq_true_eq] at h
      exact s_pl hX (e_lst hX h.1 (sL l hX h.2).pa fun ev hp Q => was_len hX.cm l ev hp Q _) (fun _ => rfl) rfl
    · cases h
  | .bin o a b, c, X, C, EX, hX, e, h => by
    simp only [chkE] at h
    split at h
    · simp only [Bool.and_eq_true] at h
      obtain ⟨⟨h1, h2⟩, h3⟩ := h
      rw [bopB_eq h1]
      exact s_pl hX (e_bin hX h2 h3 (sE a hX h2).pe (sE b hX h3).pe) (fun _ => rfl) rfl
    · cases h
  | .neg a, c, X, C, EX, hX, e, h => by
    simp only [chkE] at h
    split at h
    · exact s_neg hX (sE a hX h)
    · cases h
  | .no a, c, X, C, EX, hX, e, h => by
    simp only [chkE] at h
    split at h
    · exact s_no hX (sE a hX h)
    · cases h
  | .an a b, c, X, C, EX, hX, e, h => by
    simp only [chkE] at h
    split at h
    · rename_i x y r p
      simp only [Bool.and_eq_true] at h
      obtain ⟨h1, h2⟩ := h
      cases r with
      | nil =>
        have z := sE b hX h2
        exact s_an hX (sE a hX h1) (pe_one z.pe) (pw_and1 z.pt)
      | cons y2 r =>
        have z := sE b hX h2
        exact s_an hX (sE a hX h1) z.pe (z.pw rfl)
    · cases h
  | .oo a b, c, X, C, EX, hX, e, h => by
    simp only [chkE] at h
    split at h
    · rename_i x y r p
      simp only [Bool.and_eq_true] at h
      obtain ⟨h1, h2⟩ := h
      cases r with
      | nil =>
        have z := sE b hX h2
        exact s_oo hX (sE a hX h1) (pe_one z.pe) (pw_or1 z.pt)
      | cons y2 r =>
        have z := sE b hX h2
        exact s_oo hX (sE a hX h1) z.pe (z.pw rfl)
    · cases h
  | .ite t a b, c, X, C, EX, hX, e, h => by
    simp only [chkE] at h
    split at h
    · simp only [Bool.and_eq_true] at h
      exact s_ite hX (sE t hX h.1.1) (sE a hX h.1.2) (sE b hX h.2)
    · cases h
  | .cmp o a b, c, X, C, EX, hX, e, h => by
    simp only [chkE] at h
    split at h
    · rename_i x p0 y pos
      simp only [Bool.and_eq_true] at h
      obtain ⟨⟨⟨h1, h2⟩, h3⟩, h4⟩ := h
      have ha := sE a hX h3
      rw [copB_eq h1]
      cases ho : isB o with
      | true =>
        rw [ho] at h4
        have z := e_cmp hX (pos := pos) ho h2 h3 h4 ha.pe (sE b hX h4).pe
        exact ⟨z.1, z.2, fun z => nomatch z⟩
      | false =>
        rw [ho] at h4
        rcases (Bool.or_eq_true _ _ ▸ h4 : _ ∨ _) with h4 | h4
        · simp only [Bool.and_eq_true] at h4
          obtain rfl := nonM_eq h4.1
          obtain ⟨k, p, e2⟩ := nonB_eq h4.2
          subst e2
          cases o <;> first | cases ho | skip
          · have z := e_isn hX (pos := pos) (j := k) (p2 := p) h3 ha.pe
            exact ⟨z.1, z.2, fun z => nomatch z⟩
          · have z := e_isnot hX (pos := pos) (j := k) (p2 := p) h3 ha.pe
            exact ⟨z.1, z.2, fun z => nomatch z⟩
        · unfold blB at h4
          split at h4
          · split at h4
            · obtain rfl := of_decide_eq_true h4
              rename_i i0 e0 k p _
              cases o <;> first | cases ho | skip
              · have z := e_isB hX (t := i0) (pos := pos) (j := k) (p2 := p) h3 ha.pe
                exact ⟨z.1, z.2, fun z => nomatch z⟩
              · have z := e_isnotB hX (t := i0) (pos := pos) (j := k) (p2 := p) h3 ha.pe
                exact ⟨z.1, z.2, fun z => nomatch z⟩
            · cases h4
          · cases h4
    · cases h
  | .cmp2 o q a b d, c, X, C, EX, hX, e, h => by
    simp only [chkE] at h
    split at h
    · simp only [Bool.and_eq_true] at h
      obtain ⟨⟨⟨⟨⟨⟨⟨⟨h1, h2⟩, h3⟩, h4⟩, h5⟩, h6⟩, h7⟩, h8⟩, h9⟩ := h
      rw [copB_eq h1, copB_eq h2]
      obtain ⟨t, f, pe, pt⟩ := e_cmp2 hX (pos := ‹Pos›) h3 h4 h5 h6 h7 h8 h9 (sE a hX h7).pe (sE b hX h8).pe (sE d hX h9).pe
      exact ⟨PE.imp pe f, pt_test (wE_mono hX.cm _) pt f, fun z => nomatch z⟩
    · cases h
  | .ix a i, c, X, C, EX, hX, e, h => by
    simp only [chkE] at h
    split at h
    · simp only [Bool.and_eq_true] at h
      exact s_pl hX (e_ix hX h.1.1 h.1.2 (sE a hX h.1.2).pe (sE i hX h.2).pe) (fun _ => rfl) rfl
    · cases h
  | .sl a lo hi, c, X, C, EX, hX, e, h => by
    simp only [chkE] at h
    split at h
    · rename_i x l u p2 pos
      obtain ⟨h1, h3⟩ := (Bool.and_eq_true _ _ ▸ h : _ ∧ _)
      obtain ⟨h1, h2⟩ := (Bool.and_eq_true _ _ ▸ h1 : _ ∧ _)
      exact s_pl hX (e_sl hX h1 (sE a hX h1).pe (o_part hX h2 fun e he => (sE lo hX he).pe) (o_part hX h3 fun e he => (sE hi hX he).pe)) (fun _ => rfl) rfl
    · cases h
  | .back a, c, X, C, EX, hX, e, h => by
    simp only [chkE] at h
    split at h
    · simp only [Bool.and_eq_true, decide_eq_true_eq] at h
      obtain ⟨rfl, h2⟩ := h
      exact s_pl hX (e_back hX h2 (sE a hX h2).pe) (fun _ => rfl) rfl
    · cases h
  | .call f l, c, X, C, EX, hX, e, h => by
    simp only [chkE] at h
    split at h
    · simp only [Bool.and_eq_true, decide_eq_true_eq] at h
      obtain ⟨⟨⟨rfl, h2⟩, h3⟩, h4⟩ := h
      have z := sL l hX h4
      exact s_pl hX (e_call hX h2 h3 z.pl z.nl z.pa) (fun _ => rfl) rfl
    · cases h
  | .calld f l dv, c, X, C, EX, hX, e, h => by
    simp only [chkE] at h
    split at h
    · simp only [Bool.and_eq_true, decide_eq_true_eq] at h
      obtain ⟨⟨⟨⟨rfl, h2⟩, h3⟩, h5⟩, h4⟩ := h
      have z := sL l hX h4
      exact s_pl hX (e_calld hX h2 h3 h5 z.pl z.nl z.pa) (fun _ => rfl) rfl
    · cases h
  | .b1 f a, c, X, C, EX, hX, e, h => by
    simp only [chkE] at h
    split at h
    · simp only [Bool.and_eq_true, decide_eq_true_eq] at h
      obtain ⟨⟨⟨rfl, h2⟩, h3⟩, h4⟩ := h
      exact s_pl hX (e_b1 hX h2 h3 h4 (sE a hX h4).pe) (fun _ => rfl) rfl
    · cases h
  | .b2 f a b, c, X, C, EX, hX, e, h => by
    simp only [chkE] at h
    split at h
    · simp only [Bool.and_eq_true, decide_eq_true_eq] at h
      obtain ⟨⟨⟨⟨⟨rfl, h2⟩, h3⟩, h4⟩, h5⟩, h6⟩ := h
      exact s_pl hX (e_b2 hX h2 h3 h4 (sE a hX h5).pe (sE b hX h6).pe) (fun _ => rfl) rfl
    · cases h
  | .isi a t, c, X, C, EX, hX, e, h => by
    simp only [chkE] at h
    split at h
    · simp only [Bool.and_eq_true, decide_eq_true_eq] at h
      obtain ⟨⟨⟨⟨⟨rfl, h2⟩, rfl⟩, h4⟩, h5⟩, h6⟩ := h
      exact s_pl hX (e_isi hX h2 h4 h5 h6 (sE a hX h6).pe) (fun _ => rfl) rfl
    · cases h
  | .m1 m o a, c, X, C, EX, hX, e, h => by
    simp only [chkE] at h
    split at h
    · simp only [Bool.and_eq_true, decide_eq_true_eq] at h
      obtain ⟨⟨⟨⟨⟨rfl, h2⟩, h3⟩, h4⟩, h5⟩, h6⟩ := h
      exact s_pl hX (e_m1 hX h2 h3 h4 h5 (sE o hX h5).pe (sE a hX h6).pe) (fun _ => rfl) rfl
    · cases h
  | .m0 m o, c, X, C, EX, hX, e, h => by
    simp only [chkE] at h
    split at h
    · simp only [Bool.and_eq_true, decide_eq_true_eq] at h
      obtain ⟨⟨⟨rfl, h2⟩, h4⟩, h5⟩ := h
      exact s_pl hX (e_m0 hX h2 h4 h5 (sE o hX h5).pe) (fun _ => rfl) rfl
    · cases h
  | .comp m tg it t own, c, X, C, EX, hX, e, h => by
    simp only [chkE] at h
    split at h
    · rename_i elt tge iter ifs k scope pos
      simp only [Bool.and_eq_true] at h
      obtain ⟨⟨⟨⟨⟨⟨⟨h1, h2⟩, h3⟩, h4⟩, h5⟩, h6⟩, h7⟩, h8⟩ := h
      obtain rfl := of_decide_eq_true h1
      have h4' := of_decide_eq_true h4
      refine s_pl hX (e_comp hX h2 h3 h4' (sI it hX h5.1 true tge h5.2) (folded_of h8) (fun X' C' hX' => ?_) fun X' C' hX' => (sE m hX' h7).pe) (fun _ => rfl) rfl
      cases ifs with
      | nil =>
        have ht : t = .bl true := by
          clear h7 h5
          cases t with
          | bl b =>
            cases b with
            | true => rfl
            | false => cases h6
          | _ => cases h6
        subst ht
        refine ⟨fun pins s σ H Q I q => pts_nil.run pins s σ H Q I ?_⟩
        obtain ⟨ev, hp, I', q⟩ := q
        simp only [wE, wr] at q
        exact q H I' (KE.refl _)
      | cons x r =>
        cases r with
        | nil => exact pts_one (sE t hX' h6).pt
        | cons y r => cases h6
    · cases h
  | .vl a, c, X, C, EX, hX, e, h => by
    simp only [chkE, Bool.and_eq_true, Bool.not_eq_true'] at h
    exact s_vl hX h.1 (sE a hX h.2)
  | .rf a, c, X, C, EX, hX, e, h => by
    simp only [chkE, Bool.and_eq_true] at h
    have pe := s_rf hX (sE a hX h.2).pe
    have hp := h.1
    unfold plT at hp
    split at hp <;> first | exact s_pl hX pe (fun _ => rfl) rfl | cases hp
  | .o1 f a, c, X, C, EX, hX, e, h => by
    simp only [chkE] at h
    split at h
    · simp only [Bool.and_eq_true, decide_eq_true_eq] at h
      obtain ⟨⟨⟨rfl, h2⟩, h3⟩, h4⟩ := h
      cases f
      exact s_pl hX (e_o1 hX h2 h3 (sE a hX h4).pe) (fun _ => rfl) rfl
    · cases h
  | .o2 f a b, c, X, C, EX, hX, e, h => by
    simp only [chkE] at h
    split at h
    · simp only [Bool.and_eq_true, decide_eq_true_eq] at h
      obtain ⟨⟨⟨rfl, h2⟩, h3⟩, h4⟩ := h
      exact s_pl hX (e_dx hX h2 (sE a hX h3).pe (sE b hX h4).pe) (fun _ => rfl) rfl
    · simp only [Bool.and_eq_true, decide_eq_true_eq] at h
      obtain ⟨⟨⟨⟨⟨⟨h1, rfl⟩, h2⟩, h3⟩, h4⟩, h5⟩, h6⟩ := h
      cases f with
      | dx => exact (h1 rfl).elim
      | get => exact s_pl hX (e_get1 hX h2 h3 h4 (sE a hX h5).pe (sE b hX h6).pe) (fun _ => rfl) rfl
      | lpop => exact s_pl hX (e_lpop hX h2 h3 h4 (sE a hX h5).pe (sE b hX h6).pe) (fun _ => rfl) rfl
    · cases h
  | .o3 f a b d, c, X, C, EX, hX, e, h => by
    simp only [chkE] at h
    split at h
    · simp only [Bool.and_eq_true, decide_eq_true_eq] at h
      obtain ⟨⟨⟨⟨⟨⟨⟨rfl, h2⟩, h3⟩, h4⟩, h5⟩, h6⟩, h7⟩, h8⟩ := h
      exact s_pl hX (e_o3 hX h2 h3 h4 h5 (sE a hX h6).pe (sE b hX h7).pe (sE d hX h8).pe) (fun _ => rfl) rfl
    · cases h
  | .dct ks vs, c, X, C, EX, hX, e, h => by
    simp only [chkE] at h
    split at h
    · simp only [Bool.and_eq_true, decide_eq_true_eq] at h
      obtain ⟨⟨⟨⟨⟨h1, h2⟩, h3⟩, h4⟩, h5⟩, h6⟩ := h
      exact s_pl hX (e_dct hX h1 h2 h3 h4 h5 (by rw [h5]; exact chkL_len h6) (sP vs hX h1 h5 h6)) (fun _ => rfl) rfl
    · cases h
  | .dnew t, c, X, C, EX, hX, e, h => by
    simp only [chkE] at h
    split at h
    · exact s_pl hX (e_dnew hX) (fun _ => rfl) rfl
    · cases h
  | .tin ng t fs a, c, X, C, EX, hX, e, h => by
    simp only [chkE] at h
    split at h
    · simp only [Bool.and_eq_true, decide_eq_true_eq] at h
      obtain ⟨⟨⟨⟨h1, rfl⟩, h3⟩, h4⟩, h5⟩ := h
      obtain ⟨pe, pt⟩ := e_tin hX h1 h3 h4 (sE a hX h5).pe
      exact ⟨pe, pt, fun z => nomatch z⟩
    · cases h
  | .tix t fs a, c, X, C, EX, hX, e, h => by
    simp only [chkE] at h
    split at h
    · simp only [Bool.and_eq_true, decide_eq_true_eq] at h
      obtain ⟨⟨⟨⟨rfl, h3⟩, h4⟩, h6⟩, h5⟩ := h
      exact s_pl hX (e_tix hX h3 h4 h6 (sE a hX h5).pe) (fun _ => rfl) rfl
    · cases h
  | .callv i fl l, c, X, C, EX, hX, e, h => by
    simp only [chkE] at h
    split at h
    · simp only [Bool.and_eq_true, decide_eq_true_eq] at h
      obtain ⟨⟨⟨h1, h2⟩, h3⟩, h4⟩ := h
      have z := sL l hX h4
      exact s_pl hX (e_callv hX h1 h2 h3 z.pl z.pa) (fun _ => rfl) rfl
    · cases h
theorem sP {cl : CallT} {co : ConT} : ∀ (vs : List Ex) {c : Ctx} {X : Cx} {C : BC} {EX : Ev → EK} (hX : XOk c X C cl co EX) {ks : List Str} {keys : List (Option Expr)} {es : List Expr} {pos : Pos}, keysB ks keys = true → ks.length = es.length → chkL c vs es = true → PPs X pos keys es (trOf C cl co ks vs)
  | [], c, X, C, EX, hX, ks, keys, es, pos, hk, hl, h => by
    simp only [chkL] at h
    split at h
    · cases ks with
      | nil =>
        cases keys with
        | nil => exact pps_nil
        | cons k r => simp [keysB] at hk
      | cons k r => simp at hl
    · cases h
  | a :: r, c, X, C, EX, hX, ks, keys, es, pos, hk, hl, h => by
    simp only [chkL] at h
    split at h
    · simp only [Bool.and_eq_true] at h
      cases ks with
      | nil => simp at hl
      | cons k ks =>
        cases keys with
        | nil => simp [keysB] at hk
        | cons e keys =>
          unfold keysB at hk
          split at hk
          · rename_i a1 a2
            cases a1
          · rename_i k' ks' j kk pp es' a1 a2
            cases a1; cases a2
            obtain ⟨h1, h2⟩ := Bool.and_eq_true_iff.mp hk
            obtain rfl := of_decide_eq_true h1
            exact pps_cons pe_str (PE.any fun D _ => (sE a (hX.wG D) h.1.2).pe) (sP r hX h2 (by simpa using hl) h.2)
          · cases hk
    · cases h
theorem sL {cl : CallT} {co : ConT} : ∀ (l : List Ex) {c : Ctx} {X : Cx} {C : BC} {EX : Ev → EK} (hX : XOk c X C cl co EX) {es : List Expr}, chkL c l es = true → SL X C cl co EX l es
  | [], c, X, C, EX, hX, es, h => by
    simp only [chkL] at h
    split at h
    · exact l_nil hX
    · cases h
  | a :: r, c, X, C, EX, hX, es, h => by
    simp only [chkL] at h
    split at h
    · simp only [Bool.and_eq_true] at h
      exact l_cons hX h.1.1 (sE a hX h.1.2) (sL r hX h.2)
    · cases h
theorem sI {cl : CallT} {co : ConT} : ∀ (it : It) {c : Ctx} {X : Cx} {C : BC} {EX : Ev → EK} (hX : XOk c X C cl co EX) {e : Expr}, chkI c it e = true → SI X C cl co EX it e
  | .e a, c, X, C, EX, hX, e, h => by
    simp only [chkI, Bool.and_eq_true] at h
    exact i_any hX h.2 (sE a hX h.2).pe
  | .rg1 a, c, X, C, EX, hX, e, h => by
    simp only [chkI] at h
    split at h
    · simp only [Bool.and_eq_true, decide_eq_true_eq] at h
      obtain ⟨⟨⟨rfl, h2⟩, h3⟩, h4⟩ := h
      exact i_rg1 hX h2 h3 (sE a hX h4).pe
    · cases h
  | .rg2 a b, c, X, C, EX, hX, e, h => by
    simp only [chkI] at h
    split at h
    · simp only [Bool.and_eq_true, decide_eq_true_eq] at h
      obtain ⟨⟨⟨⟨⟨rfl, h2⟩, h3⟩, h4⟩, h5⟩, h6⟩ := h
      exact i_rg2 hX h2 h3 h4 (sE a hX h5).pe (sE b hX h6).pe
    · cases h
  | .rg3 a b, c, X, C, EX, hX, e, h => by
    simp only [chkI] at h
    split at h
    · simp only [Bool.and_eq_true, decide_eq_true_eq] at h
      obtain ⟨⟨⟨⟨⟨⟨rfl, rfl⟩, h2⟩, h3⟩, h4⟩, h5⟩, h6⟩ := h
      exact i_rg3 hX h2 h3 h4 (sE a hX h5).pe (sE b hX h6).pe
    · cases h
  | .en a, c, X, C, EX, hX, e, h => by
    simp only [chkI] at h
    split at h
    · simp only [Bool.and_eq_true, decide_eq_true_eq] at h
      obtain ⟨⟨⟨rfl, h2⟩, h3⟩, h4⟩ := h
      exact i_en hX h2 h3 h4 (sE a hX h4).pe
    · cases h
  | .zp a b, c, X, C, EX, hX, e, h => by
    simp only [chkI] at h
    split at h
    · simp only [Bool.and_eq_true, decide_eq_true_eq] at h
      obtain ⟨⟨⟨⟨⟨rfl, h2⟩, h3⟩, h4⟩, h5⟩, h6⟩ := h
      exact i_zp hX h2 h3 h4 h5 h6 (sE a hX h5).pe (sE b hX h6).pe
    · cases h
end
end Mi

namespace Mi
open PySem PySem.Spec PyProof.Rows L2

/-! ### what a statement changes -/
theorem set_at {α : Type} {l : List (Option α)} {i j : Nat} {x y : α} (h : (l.set i (some x))[j]? = some (some y)) : (i = j ∧ x = y ∧ i < l.length) ∨ (i ≠ j ∧ l[j]? = some (some y)) := by
  by_cases hj : i = j
  · subst hj
    rw [List.getElem?_set_self'] at h
    cases hh : l[i]? with
    | none => rw [hh] at h; cases h
    | some z => rw [hh] at h; cases h; exact .inl ⟨rfl, rfl, (List.getElem?_eq_some_iff.mp hh).1⟩
  · rw [List.getElem?_set_ne hj] at h
    exact .inr ⟨hj, h⟩
theorem set_to {α : Type} {l : List (Option α)} {i : Nat} {x : α} (h : i < l.length) : (l.set i (some x))[i]? = some (some x) := List.getElem?_set_self h
section
variable {C : BC} {p : Pt}
/-- a value comes to a slot, whatever was there -/
theorem I3.setV (I : I3 C p) {i : Nat} {x : D} {v : V} (r : RepP C p x v) :
    I3 C { p with ev := p.ev.set i (some (.d x)), st := p.st.set i (some v) } ∧ KS p { p with ev := p.ev.set i (some (.d x)), st := p.st.set i (some v) } := by
  have own1 : ∀ a, Pt.own { p with ev := p.ev.set i (some (.d x)), st := p.st.set i (some v) } a → p.own a := by
    rintro a ⟨j, l, e1, e2⟩
    rcases set_at e1 with ⟨_, z, _⟩ | ⟨hj, e1'⟩
    · cases z
    · rcases set_at e2 with ⟨z, _⟩ | ⟨_, e2'⟩
      · exact (hj z).elim
      · exact ⟨j, l, e1', e2'⟩
  have ks : KS p { p with ev := p.ev.set i (some (.d x)), st := p.st.set i (some v) } := ⟨fun a o e f g => ⟨e, f, fun z => g (own1 a z)⟩, fun a h => h⟩
  refine ⟨⟨by show (p.ev.set i _).length = (p.st.set i _).length; rw [List.length_set, List.length_set]; exact I.len, fun j y e => ?_, fun a o e => ?_, fun a g => ?_, fun j k l m a e1 e2 e3 e4 => ?_, fun a o e f => ?_, I.up, fun a h => I.on a (own1 a h)⟩, ks⟩
  · rcases set_at e with ⟨hj, z, hl⟩ | ⟨hj, e'⟩
    · subst hj; subst z
      exact ⟨v, set_to (by rw [← I.len]; exact hl), Rep.keep ks.kp r⟩
    · obtain ⟨u, e2, q⟩ := I.slot j y e'
      refine ⟨u, by show (p.st.set i _)[j]? = _; rw [List.getElem?_set_ne hj]; exact e2, ?_⟩
      cases y with
      | d y => exact Rep.keep ks.kp q
      | ol l =>
        obtain ⟨a, vs, e3, h1, h2, h3, h4⟩ := q
        exact ⟨a, vs, e3, h1, h2, h3, Reps.keep ks.kp h4⟩
      | od l => exact q
  · obtain ⟨u, e2, q⟩ := I.heap a o e
    exact ⟨u, e2, RepO.kp ks.kp q⟩
  · obtain ⟨h1, h2, h3⟩ := I.g a g
    exact ⟨h1, h2, fun z => h3 (own1 a z)⟩
  · rcases set_at e1 with ⟨_, z, _⟩ | ⟨n1, e1'⟩
    · cases z
    · rcases set_at e2 with ⟨_, z, _⟩ | ⟨n2, e2'⟩
      · cases z
      · rcases set_at e3 with ⟨z, _⟩ | ⟨_, e3'⟩
        · exact (n1 z).elim
        · rcases set_at e4 with ⟨z, _⟩ | ⟨_, e4'⟩
          · exact (n2 z).elim
          · exact I.uniq j k l m a e1' e2' e3' e4'
  · obtain ⟨h1, h2, h3⟩ := I.kp a o e f
    exact ⟨h1, h2, fun z => h3 (own1 a z)⟩
/-- a list made since ps comes to a slot -/
theorem I3.setO {ps : Pt} (Ips : I3 C ps) (I : I3 C p) (k : KS ps p) {i : Nat} {l : List D} {v : V} (r : RepB C p (.ol l) v) (n : New C ps p (.ol l) v) :
    I3 C { p with ev := p.ev.set i (some (.ol l)), st := p.st.set i (some v) } ∧ KS ps { p with ev := p.ev.set i (some (.ol l)), st := p.st.set i (some v) } := by
  obtain ⟨b, vs0, rfl, e0, f0, g0, _⟩ := r
  obtain ⟨hn, IG, vs, e1, rG⟩ := n b rfl
  obtain ⟨_, _, no⟩ := IG.g b (.inl rfl)
  have own1 : ∀ a, Pt.own { p with ev := p.ev.set i (some (.ol l)), st := p.st.set i (some (.ref b)) } a → p.own a ∨ a = b := by
    rintro a ⟨j, m, e1, e2⟩
    rcases set_at e1 with ⟨hj, z, _⟩ | ⟨hj, e1'⟩
    · rcases set_at e2 with ⟨_, z2, _⟩ | ⟨hj2, _⟩
      · cases z2; exact .inr rfl
      · exact (hj2 hj).elim
    · rcases set_at e2 with ⟨z, _⟩ | ⟨_, e2'⟩
      · exact (hj z).elim
      · exact .inl ⟨j, m, e1', e2'⟩
  have kp : Kp p.H (Fb (C.wG b) p) p.H (Fb C { p with ev := p.ev.set i (some (.ol l)), st := p.st.set i (some (.ref b)) }) := fun a o e f => ⟨e, fun z => by
    rcases z with z | z | z
    · exact f (.inl z)
    · rcases own1 a z with z | z
      · exact f (.inr (.inl z))
      · exact f (.inr (.inr (.inl z)))
    · exact f (.inr (.inr (.inr z)))⟩
  have ks : KS ps { p with ev := p.ev.set i (some (.ol l)), st := p.st.set i (some (.ref b)) } := ⟨fun a o e f g => by
    obtain ⟨h1, h2, h3⟩ := k.1 a o e f g
    refine ⟨h1, h2, fun z => ?_⟩
    rcases own1 a z with z | z
    · exact h3 z
    · exact ne_of_none e hn z, k.2⟩
  have hb0 : C.H0 b = none := Ips.up b hn
  refine ⟨⟨by show (p.ev.set i _).length = (p.st.set i _).length; rw [List.length_set, List.length_set]; exact I.len, fun j y e => ?_, fun a o e => ?_, fun a g => ?_, fun j k l m a e1 e2 e3 e4 => ?_, fun a o e f => ?_, I.up, fun a h => ?_⟩, ks⟩
  · rcases set_at e with ⟨hj, z, hl⟩ | ⟨hj, e'⟩
    · subst hj; subst z
      exact ⟨.ref b, set_to (by rw [← I.len]; exact hl), b, vs, rfl, e1, f0, g0, Reps.keep kp rG⟩
    · obtain ⟨u, e2, q⟩ := IG.slot j y e'
      refine ⟨u, by show (p.st.set i _)[j]? = _; rw [List.getElem?_set_ne hj]; exact e2, ?_⟩
      cases y with
      | d y => exact Rep.keep kp q
      | ol l =>
        obtain ⟨a, vs, e3, h1, h2, h3, h4⟩ := q
        exact ⟨a, vs, e3, h1, h2, fun z => h3 (.inr z), Reps.keep kp h4⟩
      | od l => exact q
  · obtain ⟨u, e2, q⟩ := IG.heap a o e
    exact ⟨u, e2, RepM.keep kp q⟩
  · obtain ⟨h1, h2, h3⟩ := I.g a g
    refine ⟨h1, h2, fun z => ?_⟩
    rcases own1 a z with z | z
    · exact h3 z
    · subst z; exact g0 g
  · rcases set_at e1 with ⟨h1, z1, _⟩ | ⟨n1, e1'⟩
    · rcases set_at e2 with ⟨h2, z2, _⟩ | ⟨n2, e2'⟩
      · rw [← h1, ← h2]
      · rcases set_at e4 with ⟨z, _⟩ | ⟨_, e4'⟩
        · exact (n2 z).elim
        · rcases set_at e3 with ⟨_, z, _⟩ | ⟨z, _⟩
          · cases z; exact (no ⟨k, m, e2', e4'⟩).elim
          · exact (z h1).elim
    · rcases set_at e3 with ⟨z, _⟩ | ⟨_, e3'⟩
      · exact (n1 z).elim
      · rcases set_at e2 with ⟨h2, z2, _⟩ | ⟨n2, e2'⟩
        · rcases set_at e4 with ⟨_, z, _⟩ | ⟨z, _⟩
          · cases z; exact (no ⟨j, l, e1', e3'⟩).elim
          · exact (z h2).elim
        · rcases set_at e4 with ⟨z, _⟩ | ⟨_, e4'⟩
          · exact (n2 z).elim
          · exact I.uniq j k l m a e1' e2' e3' e4'
  · obtain ⟨h1, h2, h3⟩ := I.kp a o e f
    refine ⟨h1, h2, fun z => ?_⟩
    rcases own1 a z with z | z
    · exact h3 z
    · subst z
      have e' : C.H0 a = some o := e
      rw [hb0] at e'; cases e'
  · rcases own1 a h with z | z
    · exact I.on a z
    · rw [z]; exact hb0
theorem I3.setX {ps : Pt} (Ips : I3 C ps) (I : I3 C p) (k : KS ps p) {i : Nat} : ∀ {x : SV} {v : V}, RepB C p x v → New C ps p x v →
    I3 C { p with ev := p.ev.set i (some x), st := p.st.set i (some v) } ∧ KS ps { p with ev := p.ev.set i (some x), st := p.st.set i (some v) }
  | .d x, v, r, _ => ⟨(I.setV r).1, k.trans (I.setV r).2⟩
  | .ol l, v, r, n => Ips.setO I k r n
  | .od l, v, r, _ => r.elim
/-- a list that nothing speaks of comes to a slot -/
theorem I3.setG {i : Nat} {l : List D} {b : Addr} {vs : List V} (IG : I3 (C.wG b) p) (e1 : p.H b = some (.lst vs)) (f0 : p.hp b = none) (g0 : ¬ C.G b) (rG : RepsP (C.wG b) p l vs) (hb0 : C.H0 b = none) :
    I3 C { p with ev := p.ev.set i (some (.ol l)), st := p.st.set i (some (.ref b)) } ∧ Kp p.H (Fb (C.wG b) p) p.H (Fb C { p with ev := p.ev.set i (some (.ol l)), st := p.st.set i (some (.ref b)) }) ∧
      ∀ a, Pt.own { p with ev := p.ev.set i (some (.ol l)), st := p.st.set i (some (.ref b)) } a → p.own a ∨ a = b := by
  have I : I3 C p := IG.outG.1
  obtain ⟨_, _, no⟩ := IG.g b (.inl rfl)
  have own1 : ∀ a, Pt.own { p with ev := p.ev.set i (some (.ol l)), st := p.st.set i (some (.ref b)) } a → p.own a ∨ a = b := by
    rintro a ⟨j, m, e1, e2⟩
    rcases set_at e1 with ⟨hj, z, _⟩ | ⟨hj, e1'⟩
    · rcases set_at e2 with ⟨_, z2, _⟩ | ⟨hj2, _⟩
      · cases z2; exact .inr rfl
      · exact (hj2 hj).elim
    · rcases set_at e2 with ⟨z, _⟩ | ⟨_, e2'⟩
      · exact (hj z).elim
      · exact .inl ⟨j, m, e1', e2'⟩
  have kp : Kp p.H (Fb (C.wG b) p) p.H (Fb C { p with ev := p.ev.set i (some (.ol l)), st := p.st.set i (some (.ref b)) }) := fun a o e f => ⟨e, fun z => by
    rcases z with z | z | z
    · exact f (.inl z)
    · rcases own1 a z with z | z
      · exact f (.inr (.inl z))
      · exact f (.inr (.inr (.inl z)))
    · exact f (.inr (.inr (.inr z)))⟩
  refine ⟨⟨by show (p.ev.set i _).length = (p.st.set i _).length; rw [List.length_set, List.length_set]; exact I.len, fun j y e => ?_, fun a o e => ?_, fun a g => ?_, fun j k l m a e1 e2 e3 e4 => ?_, fun a o e f => ?_, I.up, fun a h => ?_⟩, kp, own1⟩
  · rcases set_at e with ⟨hj, z, hl⟩ | ⟨hj, e'⟩
    · subst hj; subst z
      exact ⟨.ref b, set_to (by rw [← I.len]; exact hl), b, vs, rfl, e1, f0, g0, Reps.keep kp rG⟩
    · obtain ⟨u, e2, q⟩ := IG.slot j y e'
      refine ⟨u, by show (p.st.set i _)[j]? = _; rw [List.getElem?_set_ne hj]; exact e2, ?_⟩
      cases y with
      | d y => exact Rep.keep kp q
      | ol l =>
        obtain ⟨a, vs, e3, h1, h2, h3, h4⟩ := q
        exact ⟨a, vs, e3, h1, h2, fun z => h3 (.inr z), Reps.keep kp h4⟩
      | od l => exact q
  · obtain ⟨u, e2, q⟩ := IG.heap a o e
    exact ⟨u, e2, RepM.keep kp q⟩
  · obtain ⟨h1, h2, h3⟩ := I.g a g
    refine ⟨h1, h2, fun z => ?_⟩
    rcases own1 a z with z | z
    · exact h3 z
    · subst z; exact g0 g
  · rcases set_at e1 with ⟨h1, z1, _⟩ | ⟨n1, e1'⟩
    · rcases set_at e2 with ⟨h2, z2, _⟩ | ⟨n2, e2'⟩
      · rw [← h1, ← h2]
      · rcases set_at e4 with ⟨z, _⟩ | ⟨_, e4'⟩
        · exact (n2 z).elim
        · rcases set_at e3 with ⟨_, z, _⟩ | ⟨z, _⟩
          · cases z; exact (no ⟨k, m, e2', e4'⟩).elim
          · exact (z h1).elim
    · rcases set_at e3 with ⟨z, _⟩ | ⟨_, e3'⟩
      · exact (n1 z).elim
      · rcases set_at e2 with ⟨h2, z2, _⟩ | ⟨n2, e2'⟩
        · rcases set_at e4 with ⟨_, z, _⟩ | ⟨z, _⟩
          · cases z; exact (no ⟨j, l, e1', e3'⟩).elim
          · exact (z h2).elim
        · rcases set_at e4 with ⟨z, _⟩ | ⟨_, e4'⟩
          · exact (n2 z).elim
          · exact I.uniq j k l m a e1' e2' e3' e4'
  · obtain ⟨h1, h2, h3⟩ := I.kp a o e f
    refine ⟨h1, h2, fun z => ?_⟩
    rcases own1 a z with z | z
    · exact h3 z
    · subst z
      have e' : C.H0 a = some o := e
      rw [hb0] at e'; cases e'
  · rcases own1 a h with z | z
    · exact I.on a z
    · rw [z]; exact hb0
/-- the slots go -/
theorem I3.drop {C' : BC} (I : I3 C p) (hK : C'.K = C.K) (hm : C'.mg = C.mg) (hw : C'.pw = C.pw) (h0 : C'.H0 = C.H0) (hh : C'.hp0 = C.hp0) (hg : ∀ a, C'.G a → C.G a ∨ p.own a) :
    I3 C' (p0 p.hp p.H) ∧ Kp p.H (Fb C p) p.H (Fb C' (p0 p.hp p.H)) := by
  have kp : Kp p.H (Fb C p) p.H (Fb C' (p0 p.hp p.H)) := fun a o e f => ⟨e, fun z => by
    rcases z with z | z | z
    · exact f (.inl z)
    · exact no_own z
    · rcases hg a z with z | z
      · exact f (.inr (.inr z))
      · exact f (.inr (.inl z))⟩
  refine ⟨⟨rfl, fun i x e => by simp at e, fun a o e => ?_, fun a g => ?_, fun i j l m a e => by simp at e, fun a o e f => ?_, fun a h => by rw [h0]; exact I.up a h, fun a h => (no_own h).elim⟩, kp⟩
  · obtain ⟨u, e2, q⟩ := I.heap a o e
    have q2 := RepM.keep kp q
    rw [← hK, ← hm, ← hw] at q2
    exact ⟨u, e2, q2⟩
  · rcases hg a g with g | g
    · obtain ⟨h1, h2, _⟩ := I.g a g
      exact ⟨h1, h2, no_own⟩
    · obtain ⟨vs, h1, h2⟩ := I.own_some g
      exact ⟨⟨_, h1⟩, h2, no_own⟩
  · rw [h0] at e; rw [hh] at f
    obtain ⟨h1, h2, _⟩ := I.kp a o e f
    exact ⟨h1, h2, no_own⟩
/-- a list of one's own is written -/
theorem I3.putO (I : I3 C p) {i : Nat} {l l' : List D} {a : Addr} {vs' : List V} (e1 : p.ev[i]? = some (some (.ol l))) (e2 : p.st[i]? = some (some (.ref a))) (r : RepsP C p l' vs') :
    I3 C { p with ev := p.ev.set i (some (.ol l')), H := upd p.H a (.lst vs') } ∧ KS p { p with ev := p.ev.set i (some (.ol l')), H := upd p.H a (.lst vs') } := by
  have ho : p.own a := ⟨i, l, e1, e2⟩
  obtain ⟨vs, h1, h2⟩ := I.own_some ho
  have hlt : i < p.ev.length := (List.getElem?_eq_some_iff.mp e1).1
  have own1 : ∀ b, Pt.own { p with ev := p.ev.set i (some (.ol l')), H := upd p.H a (.lst vs') } b ↔ p.own b := fun b => by
    constructor
    · rintro ⟨j, m, z1, z2⟩
      rcases set_at z1 with ⟨hj, _, _⟩ | ⟨_, z1'⟩
      · subst hj; exact ⟨i, l, e1, z2⟩
      · exact ⟨j, m, z1', z2⟩
    · rintro ⟨j, m, z1, z2⟩
      by_cases hj : i = j
      · subst hj; exact ⟨i, l', set_to hlt, z2⟩
      · exact ⟨j, m, by show (p.ev.set i _)[j]? = _; rw [List.getElem?_set_ne hj]; exact z1, z2⟩
  have ne : ∀ {b}, ¬ p.own b → b ≠ a := fun h z => h (by rw [z]; exact ho)
  have ks : KS p { p with ev := p.ev.set i (some (.ol l')), H := upd p.H a (.lst vs') } := ⟨fun b o e f g => ⟨by show upd p.H a _ b = _; rw [upd_ne (ne g)]; exact e, f, fun z => g ((own1 b).mp z)⟩, fun b h => by
    have h' : upd p.H a (.lst vs') b = none := h
    by_cases z : b = a
    · rw [z, upd_same] at h'; cases h'
    · rw [upd_ne z] at h'; exact h'⟩
  refine ⟨⟨by show (p.ev.set i _).length = p.st.length; rw [List.length_set]; exact I.len, fun j y e => ?_, fun b o e => ?_, fun b g => ?_, fun j k m n b z1 z2 z3 z4 => ?_, fun b o e f => ?_, fun b h => I.up b (ks.2 b h), fun b h => I.on b ((own1 b).mp h)⟩, ks⟩
  · rcases set_at e with ⟨hj, z, _⟩ | ⟨hj, e'⟩
    · subst hj; subst z
      exact ⟨.ref a, e2, a, vs', rfl, upd_same, h2, fun g => (I.g a g).2.2 ho, Reps.keep ks.kp r⟩
    · obtain ⟨u, z2, q⟩ := I.slot j y e'
      refine ⟨u, z2, ?_⟩
      cases y with
      | d y => exact Rep.keep ks.kp q
      | ol m =>
        obtain ⟨b, ws, z3, w1, w2, w3, w4⟩ := q
        refine ⟨b, ws, z3, ?_, w2, w3, Reps.keep ks.kp w4⟩
        subst z3
        have nb : b ≠ a := fun z => by
          subst z
          exact hj (I.uniq i j l m b e1 e' e2 z2)
        show upd p.H a _ b = _
        rw [upd_ne nb]; exact w1
      | od l => exact q
  · obtain ⟨u, z2, q⟩ := I.heap b o e
    have nb : b ≠ a := fun z => by rw [z, h2] at e; cases e
    exact ⟨u, by show upd p.H a _ b = _; rw [upd_ne nb]; exact z2, RepO.kp ks.kp q⟩
  · obtain ⟨⟨o, w1⟩, w2, w3⟩ := I.g b g
    exact ⟨⟨o, by show upd p.H a _ b = _; rw [upd_ne (ne w3)]; exact w1⟩, w2, fun z => w3 ((own1 b).mp z)⟩
  · have f1 : ∀ {n : Nat} {q : List D}, (p.ev.set i (some (.ol l')))[n]? = some (some (.ol q)) → ∃ q', p.ev[n]? = some (some (.ol q')) := fun {n q} z => by
      rcases set_at z with ⟨hj, _, _⟩ | ⟨_, z'⟩
      · exact ⟨l, by rw [← hj]; exact e1⟩
      · exact ⟨q, z'⟩
    obtain ⟨q1, w1⟩ := f1 z1
    obtain ⟨q2, w2⟩ := f1 z2
    exact I.uniq j k q1 q2 b w1 w2 z3 z4
  · obtain ⟨w1, w2, w3⟩ := I.kp b o e f
    exact ⟨by show upd p.H a _ b = _; rw [upd_ne (ne w3)]; exact w1, w2, fun z => w3 ((own1 b).mp z)⟩
/-- a list at an address is written -/
theorem I3.putR (I : I3 C p) {l l' : List D} {a : Addr} {vs' : List V} (e1 : p.hp a = some (.lst l)) (r : RepsP C p l' vs') :
    I3 C { p with hp := updD p.hp a (.lst l'), H := upd p.H a (.lst vs') } ∧ KE p { p with hp := updD p.hp a (.lst l'), H := upd p.H a (.lst vs') } := by
  have ne : ∀ {b}, p.hp b = none → b ≠ a := fun h z => by rw [z, e1] at h; cases h
  have ke : KE p { p with hp := updD p.hp a (.lst l'), H := upd p.H a (.lst vs') } := ⟨rfl, rfl, fun b o e f => ⟨by show upd p.H a _ b = _; rw [upd_ne (ne f)]; exact e, by show updD p.hp a _ b = _; rw [updD_ne (ne f)]; exact f⟩, fun b h => by
    have h' : upd p.H a (.lst vs') b = none := h
    by_cases z : b = a
    · rw [z, upd_same] at h'; cases h'
    · rw [upd_ne z] at h'; exact h'⟩
  refine ⟨I.step ke fun b o e => ?_, ke⟩
  have e' : updD p.hp a (.lst l') b = some o := e
  by_cases z : b = a
  · subst z
    rw [updD_same] at e'; cases e'
    exact ⟨.lst vs', upd_same, vs', rfl, Reps.keep ke.ks.kp r⟩
  · rw [updD_ne z] at e'
    obtain ⟨u, z2, q⟩ := I.heap b o e'
    exact ⟨u, by show upd p.H a _ b = _; rw [upd_ne z]; exact z2, RepO.kp ke.ks.kp q⟩
/-- a list of one's own never changes from now on -/
theorem I3.frz (I : I3 C p) {i : Nat} {l : List D} (e1 : p.ev[i]? = some (some (.ol l))) : I3 C { p with ev := p.ev.set i (some (.d (.lst l))) } ∧ KS p { p with ev := p.ev.set i (some (.d (.lst l))) } := by
  obtain ⟨v, e2, a, vs, rfl, h1, h2, h3, h4⟩ := I.slot i _ e1
  have hlt : i < p.ev.length := (List.getElem?_eq_some_iff.mp e1).1
  have own1 : ∀ b, Pt.own { p with ev := p.ev.set i (some (.d (.lst l))) } b → p.own b ∧ b ≠ a := by
    rintro b ⟨j, m, z1, z2⟩
    rcases set_at z1 with ⟨_, z, _⟩ | ⟨hj, z1'⟩
    · cases z
    · refine ⟨⟨j, m, z1', z2⟩, fun z => ?_⟩
      subst z
      exact hj (I.uniq i j l m b e1 z1' e2 z2)
  have ks : KS p { p with ev := p.ev.set i (some (.d (.lst l))) } := ⟨fun b o e f g => ⟨e, f, fun z => g (own1 b z).1⟩, fun b h => h⟩
  refine ⟨⟨by show (p.ev.set i _).length = p.st.length; rw [List.length_set]; exact I.len, fun j y e => ?_, fun b o e => ?_, fun b g => ?_, fun j k m n b z1 z2 z3 z4 => ?_, fun b o e f => ?_, I.up, fun b h => I.on b (own1 b h).1⟩, ks⟩
  · rcases set_at e with ⟨hj, z, _⟩ | ⟨hj, e'⟩
    · subst hj; subst z
      refine ⟨.ref a, e2, Rep.lst (.inl ⟨.inl h1, fun z => ?_⟩) (Reps.keep ks.kp h4)⟩
      rcases z with z | z | z
      · exact z h2
      · exact (own1 a z).2 rfl
      · exact h3 z
    · obtain ⟨u, z2, q⟩ := I.slot j y e'
      refine ⟨u, z2, ?_⟩
      cases y with
      | d y => exact Rep.keep ks.kp q
      | ol m =>
        obtain ⟨b, ws, z3, w1, w2, w3, w4⟩ := q
        exact ⟨b, ws, z3, w1, w2, w3, Reps.keep ks.kp w4⟩
      | od l => exact q
  · obtain ⟨u, z2, q⟩ := I.heap b o e
    exact ⟨u, z2, RepO.kp ks.kp q⟩
  · obtain ⟨w1, w2, w3⟩ := I.g b g
    exact ⟨w1, w2, fun z => w3 (own1 b z).1⟩
  · rcases set_at z1 with ⟨_, z, _⟩ | ⟨_, z1'⟩
    · cases z
    · rcases set_at z2 with ⟨_, z, _⟩ | ⟨_, z2'⟩
      · cases z
      · exact I.uniq j k m n b z1' z2' z3 z4
  · obtain ⟨w1, w2, w3⟩ := I.kp b o e f
    exact ⟨w1, w2, fun z => w3 (own1 b z).1⟩
end
end Mi

namespace Mi
open PySem PySem.Spec PyProof.Rows L2

/-! ### lists that are written -/
structure MutOk (C : BC) (p : Pt) (a : Addr) (l : List D) (st : List D → HpD → (Ev → HpD → Prop) → Prop) : Prop where
  now : ∀ H', I3 C (p.wH H') → KE p (p.wH H') → ∃ vs, H' a = some (.lst vs) ∧ RepsP C (p.wH H') l vs
  put : ∀ hp' H' l' nx, I3 C (p.wh hp' H') → KE p (p.wh hp' H') → st l' hp' nx → ∃ vs, H' a = some (.lst vs) ∧ RepsP C (p.wh hp' H') l vs ∧
      ∀ vs', RepsP C (p.wh hp' H') l' vs' → ∃ ev'' hp'', nx ev'' hp'' ∧ I3 C ⟨ev'', p.st, hp'', upd H' a (.lst vs')⟩ ∧ KS (p.wh hp' H') ⟨ev'', p.st, hp'', upd H' a (.lst vs')⟩
section
variable {C : BC} {p : Pt}
theorem mut_own (I : I3 C p) {i : Nat} {l : List D} {a : Addr} (e1 : p.ev[i]? = some (some (.ol l))) (e2 : p.st[i]? = some (some (.ref a))) : MutOk C p a l (fun l' hp' nx => nx (p.ev.set i (some (.ol l'))) hp') := by
  have hh : ∃ vs, p.H a = some (.lst vs) ∧ p.hp a = none ∧ RepsP C p l vs := by
    obtain ⟨v, e3, b, vs, e4, h1, h2, h3, h4⟩ := I.slot i _ e1
    rw [e2] at e3; cases e3; cases e4
    exact ⟨vs, h1, h2, h4⟩
  obtain ⟨vs, h1, h2, h4⟩ := hh
  refine ⟨fun H' I' k => ⟨vs, (k.3 _ _ h1 h2).1, RepsP.ke k h4⟩, fun hp' H' l' nx I' k q => ⟨vs, (k.3 _ _ h1 h2).1, RepsP.ke k h4, fun vs' r => ?_⟩⟩
  obtain ⟨J, ks⟩ := I'.putO (i := i) (l := l) e1 e2 r
  exact ⟨_, hp', q, J, ks⟩
theorem mut_ref (I : I3 C p) {l : List D} {a : Addr} (e1 : p.hp a = some (.lst l)) : MutOk C p a l (fun l' hp' nx => hp' a = some (.lst l) ∧ nx p.ev (updD hp' a (.lst l'))) := by
  have hh : ∀ {q : Pt}, I3 C q → q.hp a = some (.lst l) → ∃ vs, q.H a = some (.lst vs) ∧ RepsP C q l vs := fun {q} I e => by
    obtain ⟨u, e2, vs, rfl, r⟩ := I.heap a _ e
    exact ⟨vs, e2, r⟩
  refine ⟨fun H' I' k => hh I' e1, fun hp' H' l' nx I' k q => ?_⟩
  obtain ⟨vs, h1, h2⟩ := hh I' q.1
  refine ⟨vs, h1, h2, fun vs' r => ?_⟩
  obtain ⟨J, ks⟩ := I'.putR (l := l) (l' := l') q.1 r
  exact ⟨p.ev, _, q.2, J, ks.ks⟩
end
section
variable {c : Ctx} {X : Cx} {C : BC} {cl : CallT} {co : ConT} {EX : Ev → EK}
theorem mutK_ne {o : Ex} {ev : Ev} {hp : HpD} {w : SK → Prop} {k : List D → HpD → (List D → HpD → (Ev → HpD → Prop) → Prop) → Prop} (h : isV o = false) : mutK o ev hp w k = w fun x hp => match x with
    | .d (.ref a) => match hp a with
      | some (.lst l) => k l hp fun l' hp' nx => hp' a = some (.lst l) ∧ nx ev (updD hp' a (.lst l'))
      | _ => False
    | _ => False := by
  cases o <;> first | rfl | cases h
/-- the list that is to be written -/
def liftM (C : BC) (cl : CallT) (co : ConT) (EX : Ev → EK) (o : Ex) : TE := fun σ H Q => ∃ ev hp, I3 C ⟨ev, σ, hp, H⟩ ∧ mutK o ev hp (fun Q => wr cl co o ev hp Q (EX ev))
  (fun l hp' st => ∀ a H', I3 C ⟨ev, σ, hp', H'⟩ → KE ⟨ev, σ, hp, H⟩ ⟨ev, σ, hp', H'⟩ → MutOk C ⟨ev, σ, hp', H'⟩ a l st → Q (.ref a) H')
theorem e_mut (hX : XOk c X C cl co EX) {o : Ex} {e : Expr} (h : chkE c o e = true) : PE X e (liftM C cl co EX o) := by
  cases hv : isV o with
  | false =>
    refine PE.imp (sE o hX h).pe fun σ H Q ⟨ev, hp, I, q⟩ => ⟨ev, hp, I, ?_⟩
    rw [mutK_ne hv] at q
    refine wE_mono hX.cm o _ _ _ _ ?_ q
    intro x hp1 q1 v H1 I1 k1 r1 f1
    split at q1
    · rename_i a
      split at q1
      · rename_i l e1
        have hr : v = .ref a := by cases r1; rfl
        rw [hr]
        exact q1 a H1 I1 k1 (mut_ref I1 e1)
      · exact q1.elim
    · exact q1.elim
  | true =>
    cases o with
    | v i =>
      simp only [chkE] at h
      split at h
      · simp only [Bool.and_eq_true, decide_eq_true_eq] at h
        obtain ⟨v1, v2, v3⟩ := hX.vis h.2
        refine PE.imp (pe_var (i := i) (by rw [hX.N]; exact h.1) v1 v2 v3) fun σ H Q ⟨ev, hp, I, q⟩ => ?_
        obtain ⟨x, ex, q⟩ := slotK_iff.mp (show slotK ev i _ from q)
        obtain ⟨v, hv, r⟩ := I.slot i x ex
        refine ⟨v, hv, ?_⟩
        split at q
        · obtain ⟨a, vs, rfl, h1, h2, h3, h4⟩ := r
          exact q a H I (KE.refl _) (mut_own (p := ⟨ev, σ, hp, H⟩) I ex hv)
        · rename_i a
          split at q
          · rename_i l e1
            have hr : v = .ref a := by cases r; rfl
            rw [hr]
            exact q a H I (KE.refl _) (mut_ref (p := ⟨ev, σ, hp, H⟩) I e1)
          · exact q.elim
        · exact q.elim
      · cases h
    | _ => cases hv

/-! ### targets -/
def liftG (C : BC) (w : SV → Ev → HpD → (Ev → HpD → Prop) → Prop) : TG := fun v σ H Q => ∃ ps x ev hp, I3 C ps ∧ I3 C ⟨ev, σ, hp, H⟩ ∧ KS ps ⟨ev, σ, hp, H⟩ ∧ RepB C ⟨ev, σ, hp, H⟩ x v ∧ New C ps ⟨ev, σ, hp, H⟩ x v ∧
  w x ev hp (fun ev' hp' => ∀ σ' H', I3 C ⟨ev', σ', hp', H'⟩ → KS ps ⟨ev', σ', hp', H'⟩ → Q σ' H')
def liftGs (C : BC) (w : List D → Ev → HpD → (Ev → HpD → Prop) → Prop) : TGs := fun vs σ H Q => ∃ ps ds ev hp, I3 C ps ∧ I3 C ⟨ev, σ, hp, H⟩ ∧ KS ps ⟨ev, σ, hp, H⟩ ∧ RepsP C ⟨ev, σ, hp, H⟩ ds vs ∧ ds.length = vs.length ∧
  w ds ev hp (fun ev' hp' => ∀ σ' H', I3 C ⟨ev', σ', hp', H'⟩ → KS ps ⟨ev', σ', hp', H'⟩ → Q σ' H')
theorem RepB.asD {ps p : Pt} {x : SV} {v : V} {k : D → Prop} (r : RepB C p x v) (n : New C ps p x v) (h : Mi.asD x k) : ∃ d, k d ∧ RepP C p d v := by
  cases x with
  | d x => exact ⟨x, h, r⟩
  | ol l => exact ⟨.lst l, h, RepB.frz r fun a e => ((n a e).2.1.g a (.inl rfl)).2.2⟩
  | od l => exact r.elim
abbrev wG (cl : CallT) (co : ConT) (EX : Ev → EK) (t : Tg) : SV → Ev → HpD → (Ev → HpD → Prop) → Prop := fun x ev hp k => wg cl co t x ev hp k EX
abbrev wGs (cl : CallT) (co : ConT) (EX : Ev → EK) (t : List Tg) : List D → Ev → HpD → (Ev → HpD → Prop) → Prop := fun x ev hp k => wgs cl co t x ev hp k EX
theorem g_name (hX : XOk c X C cl co EX) {i : Nat} {e : Expr} (h : tgB c i e = true) : PG X e (liftG C (wG cl co EX (.n i))) :=
  PG.imp (pg_tg hX.tg h) fun v σ H Q ⟨ps, x, ev, hp, Ips, I, k, r, n, q⟩ => by
    simp only [wG, wg] at q
    obtain ⟨J, ks⟩ := Ips.setX (i := i) I k r n
    exact q _ _ J ks
theorem g_sub (hX : XOk c X C cl co EX) {o i : Ex} {x y : Expr} {pos : Pos} (hs : notSl y = true) (ho : chkE c o x = true) (hi : chkE c i y = true) : PG X (.Subscript x y pos) (liftG C (wG cl co EX (.s o i))) := by
  refine PG.imp (pg_sub (e_mut hX ho) (sE i hX hi).pe set_list (by intro v; cases y <;> first | rfl | cases hs)) fun v σ H Q ⟨ps, x, ev, hp, Ips, I, k, r, n, q⟩ => ?_
  simp only [wG, wg] at q
  obtain ⟨d, q, rd⟩ := r.asD n q
  refine ⟨ev, hp, I, mutK_mono (fun l hp1 st sm q1 a H1 I1 k1 m1 => ?_) (fun Q Q' hQ q => wE_mono hX.cm o _ _ _ _ hQ q) q⟩
  refine ⟨ev, hp1, I1, wE_mono hX.cm i _ _ _ _ (intK_cont fun j hp2 q2 H2 I2 k2 => ?_) q1⟩
  obtain ⟨nn, hn, q2⟩ := onSome_iff.mp q2
  obtain ⟨vs, h1, h2, put⟩ := m1.put hp2 H2 _ _ I2 k2 q2
  obtain ⟨ev3, hp3, q3, I3', k3⟩ := put (vs.set nn v) (Reps.set (RepP.ke (k1.trans k2) rd) nn h2)
  refine ⟨a, vs, j, nn, rfl, rfl, h1, by rw [← h2.length]; exact hn, q3 _ _ I3' ?_⟩
  exact k.trans ((k1.trans k2).ks.trans k3)
theorem g_tab (hX : XOk c X C cl co EX) {o i : Ex} {x y : Expr} {pos : Pos} (hs : notSl y = true) (ho : chkE c o x = true) (hi : chkE c i y = true) : PG X (.Subscript x y pos) (liftG C (wG cl co EX (.ds o i))) := by
  refine PG.imp (pg_sub (sE o hX ho).pe (sE i hX hi).pe (set_tab hX.u1) (by intro v; cases y <;> first | rfl | cases hs)) fun v σ H Q ⟨ps, x, ev, hp, Ips, I, k, r, n, q⟩ => ?_
  simp only [wG, wg] at q
  obtain ⟨d, q, rd⟩ := r.asD n q
  refine ⟨ev, hp, I, wE_mono hX.cm o _ _ _ _ ?_ q⟩
  intro x1 hp1 q1 v1 H1 I1 k1 r1 n1
  refine ⟨ev, hp1, I1, wE_mono hX.cm i _ _ _ _ ?_ q1⟩
  intro y1 hp2 q2 u H2 I2 k2 r2 n2
  obtain ⟨a, H', ev1, tp, hp', q3, J, kk⟩ := dictP_ok hX.K hX.pw I2 (r1.ke k2) r2 (RepP.ke (k1.trans k2) rd) q2
  exact ⟨a, H', ev1, tp, q3 _ _ J (k.trans ((k1.trans k2).trans kk).ks)⟩
theorem gs_nil : PGs X [] (liftGs C (wGs cl co EX [])) := by
  have h : PGs X [] gNil := pgs_nil
  cases h with
  | mk r => exact ⟨fun pins s σ H vs us Q I rv ⟨ps, ds, ev, hp, Ips, Ip, k, rd, hl, q⟩ => r pins s σ H vs us Q I rv (by
      simp only [wGs, wgs] at q
      obtain ⟨rfl, q⟩ := q
      cases rd
      exact ⟨rfl, q _ _ Ip k⟩)⟩
theorem gs_cons (hX : XOk c X C cl co EX) {t : Tg} {l : List Tg} {e : Expr} {es : List Expr} (h1 : PG X e (liftG C (wG cl co EX t))) (h2 : PGs X es (liftGs C (wGs cl co EX l)))
    (hs : (assignEach (e :: es) X.env).map (·.2) = assign e X.env :: (assignEach es X.env).map (·.2)) : PGs X (e :: es) (liftGs C (wGs cl co EX (t :: l))) := by
  have h := pgs_cons h1 h2 hs
  cases h with
  | mk r => exact ⟨fun pins s σ H vs us Q I rv ⟨ps, ds, ev, hp, Ips, Ip, k, rd, hl, q⟩ => r pins s σ H vs us Q I rv (by
      simp only [wGs, wgs] at q
      cases rd with
      | nil => exact q.elim
      | @cons d v ds vs r1 rs =>
        refine ⟨v, vs, rfl, ⟨ev, σ, hp, H⟩, .d d, ev, hp, Ip, Ip, KS.refl _, r1, trivial, wg_mono hX.cm t _ _ _ _ _ _ _ ?_ (fun _ _ _ _ z => z) q⟩
        intro ev2 hp2 q2 σ2 H2 I2 k2
        refine ⟨ps, ds, ev2, hp2, Ips, I2, k.trans k2, Reps.keep k2.kp rs, by simpa using hl, q2⟩)⟩
theorem gs_facts {env : Env} : ∀ {l : List Tg} {es : List Expr}, chkGs c l es = true → (assignEach es env).length = l.length ∧ (assignEach es env).findIdx? (·.1) = none
  | [], es, h => by
    simp only [chkGs] at h
    split at h
    · exact ⟨rfl, rfl⟩
    · cases h
  | t :: l, es, h => by
    simp only [chkGs] at h
    split at h
    · rename_i e es
      simp only [Bool.and_eq_true] at h
      obtain ⟨a1, a2⟩ := gs_facts (env := env) h.2
      have hst : ∃ f, assignEach (e :: es) env = (false, f) :: assignEach es env := by
        have h1 := h.1
        cases t with
        | n i =>
          simp only [chkG] at h1
          cases e <;> first | exact ⟨_, rfl⟩ | (simp [tgB] at h1; done)
        | t l =>
          simp only [chkG] at h1
          split at h1
          · exact ⟨_, rfl⟩
          · cases h1
        | s o i =>
          simp only [chkG] at h1
          split at h1
          · exact ⟨_, rfl⟩
          · cases h1
        | ds o i =>
          simp only [chkG] at h1
          split at h1
          · exact ⟨_, rfl⟩
          · cases h1
      obtain ⟨f, hf⟩ := hst
      rw [hf]
      refine ⟨by simp [a1], ?_⟩
      rw [List.findIdx?_cons, a2]
      rfl
    · cases h
theorem each_cons {env : Env} {t : Tg} {e : Expr} {es : List Expr} (h1 : chkG c t e = true) : (assignEach (e :: es) env).map (·.2) = assign e env :: (assignEach es env).map (·.2) := by
  cases t with
  | n i =>
    simp only [chkG] at h1
    cases e <;> first | rfl | (simp [tgB] at h1; done)
  | t l =>
    simp only [chkG] at h1
    split at h1
    · rfl
    · cases h1
  | s o i =>
    simp only [chkG] at h1
    split at h1
    · rfl
    · cases h1
  | ds o i =>
    simp only [chkG] at h1
    split at h1
    · rfl
    · cases h1
mutual
theorem sG (hX : XOk c X C cl co EX) : ∀ (t : Tg) {e : Expr}, chkG c t e = true → PG X e (liftG C (wG cl co EX t))
  | .n i, e, h => by
    simp only [chkG] at h
    exact g_name hX h
  | .t l, e, h => by
    simp only [chkG] at h
    split at h
    · rename_i es k pos
      obtain ⟨a1, a2⟩ := gs_facts (env := X.env) h
      refine PG.imp (pg_tup hX.calm (sGs hX l h) a1 a2) fun v σ H Q ⟨ps, x, ev, hp, Ips, I, k, r, n, q⟩ => ?_
      simp only [wG, wg] at q
      split at q
      · rename_i ds
        obtain ⟨a, vs, rfl, nt, t⟩ := r.tup
        refine ⟨a, vs, rfl, by rw [← hX.K]; exact nt.sq, by rw [← t.length]; exact q.1, ps, ds, ev, hp, Ips, I, k, t, t.length, q.2⟩
      · exact q.elim
    · cases h
  | .s o i, e, h => by
    simp only [chkG] at h
    split at h
    · simp only [Bool.and_eq_true] at h
      exact g_sub hX h.1.1 h.1.2 h.2
    · cases h
  | .ds o i, e, h => by
    simp only [chkG] at h
    split at h
    · simp only [Bool.and_eq_true] at h
      exact g_tab hX h.1.1 h.1.2 h.2
    · cases h
theorem sGs (hX : XOk c X C cl co EX) : ∀ (l : List Tg) {es : List Expr}, chkGs c l es = true → PGs X es (liftGs C (wGs cl co EX l))
  | [], es, h => by
    simp only [chkGs] at h
    split at h
    · exact gs_nil
    · cases h
  | t :: l, es, h => by
    simp only [chkGs] at h
    split at h
    · simp only [Bool.and_eq_true] at h
      exact gs_cons hX (sG hX t h.1) (sGs hX l h.2) (each_cons h.1)
    · cases h
end
end
end Mi

namespace Mi
open PySem PySem.Spec PyProof.Rows L2

/-! ### statements' readings -/
abbrev NX (C : BC) (p : Pt) (f : L2.St → Hp → Prop) : Ev → HpD → Prop := fun ev hp => ∀ σ H, I3 C ⟨ev, σ, hp, H⟩ → KS p ⟨ev, σ, hp, H⟩ → f σ H
def liftD (C : BC) (EX : Ev → EK) (p : Pt) (D : Ends) : EndsD := ⟨NX C p D.nx, cont C (p0 C.hp0 C.H0) D.rt, NX C p D.bk, NX C p D.ct, fun c fs ev hp => EX ev c fs hp⟩
def liftS (C : BC) (EX : Ev → EK) (w : Ev → HpD → EndsD → Prop) : TS := fun D σ H => ∃ ev hp, I3 C ⟨ev, σ, hp, H⟩ ∧ w ev hp (liftD C EX ⟨ev, σ, hp, H⟩ D)
section
variable {c : Ctx} {X : Cx} {C : BC} {cl : CallT} {co : ConT} {EX : Ev → EK}
theorem NX.back {p p' : Pt} (k : KS p p') {f : L2.St → Hp → Prop} : NxLe (NX C p f) (NX C p' f) := fun ev hp q σ H I k' => q σ H I (k.trans k')
theorem liftD.back {p p' : Pt} (k : KS p p') {D : Ends} : EndsLe (liftD C EX p D) (liftD C EX p' D) := ⟨NX.back k, fun _ _ q => q, NX.back k, NX.back k, fun _ _ _ _ q => q⟩
/-- a value is returned -/
theorem ret_ok {p p1 : Pt} {x : SV} {v : V} {Q : VK} (I : I3 C p) (I1 : I3 C p1) (r : RepB C p1 x v) (n : New C p p1 x v) (q : cont C (p0 C.hp0 C.H0) Q x p1.hp) : Q v p1.H := by
  obtain ⟨J, kp⟩ := I1.drop (C' := C) rfl rfl rfl rfl rfl fun a g => .inl g
  refine q v p1.H J ⟨rfl, rfl, fun a o e f => ⟨(I1.kp a o e f).1, (I1.kp a o e f).2.1⟩, I1.up⟩ ?_ ?_
  · cases x with
    | d x => exact Rep.keep kp r
    | ol l =>
      obtain ⟨a, vs, e, h1, h2, h3, h4⟩ := r
      exact ⟨a, vs, e, h1, h2, h3, Reps.keep kp h4⟩
    | od l => exact r
  · cases x with
    | d x => trivial
    | ol l =>
      intro a e
      obtain ⟨hn, IG, vs, e1, rG⟩ := n a e
      obtain ⟨JG, kG⟩ := IG.drop (C' := C.wG a) rfl rfl rfl rfl rfl fun a g => .inl g
      exact ⟨I.up a hn, JG, vs, e1, Reps.keep kG rG⟩
    | od l => trivial
/-- a slot's value is returned -/
theorem retV_ok {p : Pt} {i : Nat} {x : SV} {Q : VK} (I : I3 C p) (ex : p.ev[i]? = some (some x)) (q : cont C (p0 C.hp0 C.H0) Q x p.hp) : ∃ v, p.st[i]? = some (some v) ∧ Q v p.H := by
  obtain ⟨v, e2, r⟩ := I.slot i x ex
  refine ⟨v, e2, ?_⟩
  cases x with
  | d x => exact ret_ok I I r trivial q
  | od x => exact r.elim
  | ol l =>
    obtain ⟨J, kp⟩ := I.drop (C' := C) rfl rfl rfl rfl rfl fun a g => .inl g
    obtain ⟨a, vs, rfl, h1, h2, h3, h4⟩ := r
    have ho : p.own a := ⟨i, l, ex, e2⟩
    refine q (.ref a) p.H J ⟨rfl, rfl, fun a o e f => ⟨(I.kp a o e f).1, (I.kp a o e f).2.1⟩, I.up⟩ ⟨a, vs, rfl, h1, h2, h3, Reps.keep kp h4⟩ fun b e => ?_
    cases e
    obtain ⟨JG, kG⟩ := I.drop (C' := C.wG a) rfl rfl rfl rfl rfl fun b g => g.elim (fun z => .inr (by rw [z]; exact ho)) .inl
    exact ⟨I.on a ho, JG, vs, h1, Reps.keep kG h4⟩
theorem iopBin_ok (o : BOp) (h0 : o ≠ .pow) (h00 : o ≠ .rep) : ∃ r : R2, OpR X (inplaceOp (opOf o)) r ∧ ∀ (p : Pt) (x y : SV) (v u : V) (Q : VK), I3 C p → asN x → RepB C p x v → RepB C p y u → opBin o x y p.hp (cont C p Q) → r v u p.H Q := by
  have two : ∀ {p : Pt} {x : SV} {v : V}, asN x → RepB C p x v → (∃ i, x = .d (.int i) ∧ v = .int i) ∨ (∃ i, x = .d (.str i) ∧ v = .str i) := fun {p x v} h r => by
    cases x with
    | d x =>
      cases x with
      | int i => exact .inl ⟨i, rfl, r.int⟩
      | str i => exact .inr ⟨i, rfl, r.str⟩
      | _ => exact False.elim h
    | _ => exact False.elim h
  cases o with
  | add =>
    refine ⟨_, OpR.or iop_add iop_add_str, fun p x y v u Q I hx rx ry h => ?_⟩
    rcases two hx rx with ⟨i, rfl, rfl⟩ | ⟨i, rfl, rfl⟩
    · cases y with
      | d y =>
        cases y with
        | int j =>
          rw [ry.int]
          exact .inl ⟨_, _, rfl, rfl, cont.hereD I h (.int _)⟩
        | _ => exact (by simpa [opBin, lstD, onSome] using h : False).elim
      | _ => exact (by simpa [opBin, lstD, onSome] using h : False).elim
    · cases y with
      | d y =>
        cases y with
        | str j =>
          rw [ry.str]
          have h' : i.length + j.length ≤ sizeLine ∧ cont C p Q (.d (.str (i ++ j))) p.hp := h
          exact .inr ⟨_, _, rfl, rfl, h'.1, cont.hereD I h'.2 (.str _)⟩
        | _ => exact (by simpa [opBin, lstD, onSome] using h : False).elim
      | _ => exact (by simpa [opBin, lstD, onSome] using h : False).elim
  | sub =>
    refine ⟨_, OpR.or iop_sub iop_sub_ib, fun p x y v u Q I hx rx ry h => ?_⟩
    simp only [opBin] at h
    split at h
    · rw [rx.int, ry.int]
      exact .inl ⟨_, _, rfl, rfl, cont.hereD I h (.int _)⟩
    · exact False.elim hx
    · rw [rx.int, ry.bl]
      exact .inr ⟨_, _, rfl, rfl, cont.hereD I h (.int _)⟩
    · exact h.elim
  | mul =>
    have iop_mulW : OpR X (inplaceOp .Mult) (rI CMulW fun i j => .int (i * j)) := opI fun _ _ _ _ _ _ _ hc q => imul_int q hc.ok
    refine ⟨_, OpR.or iop_mulW iop_mul_ib, fun p x y v u Q I hx rx ry h => ?_⟩
    simp only [opBin] at h
    split at h
    · rw [rx.int, ry.int]
      exact .inl ⟨_, _, rfl, rfl, h.1, cont.hereD I h.2 (.int _)⟩
    · rw [rx.int, ry.bl]
      exact .inr ⟨_, _, rfl, rfl, cont.hereD I h (.int _)⟩
    · exact h.elim
  | fdiv =>
    refine ⟨_, iop_fdivW, fun p x y v u Q I hx rx ry h => ?_⟩
    simp only [opBin] at h
    split at h
    · rw [rx.int, ry.int]
      exact ⟨_, _, rfl, rfl, h.1, cont.hereD I h.2 (.int _)⟩
    · exact h.elim
  | mod =>
    refine ⟨_, iop_mod, fun p x y v u Q I hx rx ry h => ?_⟩
    simp only [opBin] at h
    split at h
    · rw [rx.int, ry.int]
      exact ⟨_, _, rfl, rfl, h.1, cont.hereD I h.2 (.int _)⟩
    · exact h.elim
  | pow => exact (h0 rfl).elim
  | rep => exact (h00 rfl).elim
/-- several values come to slots -/
theorem I3.setAllV : ∀ {is : List Nat} {ds : List D} {vs : List V} {p : Pt} {ev' : Ev}, I3 C p → RepsP C p ds vs → Mi.setAll is ds p.ev = some ev' →
    is.length = vs.length ∧ I3 C { p with ev := ev', st := setSt is vs p.st } ∧ KS p { p with ev := ev', st := setSt is vs p.st }
  | [], [], _, p, ev', I, .nil, h => by
    simp only [Mi.setAll] at h
    cases h
    exact ⟨rfl, I, KS.refl _⟩
  | i :: is, d :: ds, _, p, ev', I, .cons (v := v) (vs := vs) r t, h => by
    simp only [Mi.setAll] at h
    obtain ⟨I1, k1⟩ := I.setV (i := i) r
    obtain ⟨h1, h2, h3⟩ := I3.setAllV I1 (Reps.keep k1.kp t) h
    exact ⟨by simp [h1], h2, k1.trans h3⟩
  | [], _ :: _, _, _, _, _, _, h => by simp [Mi.setAll] at h
  | _ :: _, [], _, _, _, _, _, h => by simp [Mi.setAll] at h
/-! ### one statement -/
theorem t_asg (hX : XOk c X C cl co EX) {t : Tg} {e : Ex} {st : Stmt} {te : TE} {tg : TG} (h : PS X st (tAsg te tg)) (he : ∀ σ H Q, liftE C (wE cl co EX e) σ H Q → te σ H Q) (mt : ∀ σ H Q Q', (∀ v H, Q v H → Q' v H) → te σ H Q → te σ H Q')
    (hg : ∀ v σ H Q, liftG C (wG cl co EX t) v σ H Q → tg v σ H Q) : PS X st (liftS C EX (ws cl co (.asg t e))) :=
  PS.imp h fun D σ H ⟨ev, hp, I, q⟩ => by
    simp only [ws] at q
    refine he σ H _ ⟨ev, hp, I, wE_mono hX.cm e _ _ _ _ ?_ q⟩
    intro x hp1 q1 v H1 I1 k1 r1 n1
    exact hg v σ H1 _ ⟨⟨ev, σ, hp, H⟩, x, ev, hp1, I, I1, k1.ks, r1, n1, q1⟩
theorem names_lt {α β : Type} {f : α → Option β} : ∀ {l : List α}, (∃ x ∈ l, f x = none) → (l.filterMap f).length < l.length
  | [], ⟨_, h, _⟩ => nomatch h
  | y :: r, ⟨x, hx, e⟩ => by
    have le := List.length_filterMap_le f r
    rw [List.filterMap_cons]
    cases q : f y with
    | none => simp only [List.length_cons]; omega
    | some z =>
      simp only [List.length_cons]
      rcases List.mem_cons.mp hx with e2 | hx
      · subst e2; rw [e] at q; cases q
      · have := names_lt ⟨x, hx, e⟩
        omega
theorem swapped_cell {c : Ctx} {ts vs : List Expr} {k k2 : Nat} {p p2 : Pos} {env : Env} (hs : env.scope = c.sc) (h : ts.any (nonLoc c) = true) : swappedStores [.Tuple ts k p] (.Tuple vs k2 p2) env = pure none := by
  obtain ⟨x, hx, nx⟩ := List.any_eq_true.mp h
  unfold swappedStores
  simp only []
  split
  · rfl
  · split
    · rfl
    · refine if_pos ?_
      rw [Bool.or_eq_true]
      refine Or.inl (bne_iff_ne.mpr (Nat.ne_of_lt (names_lt ⟨x, hx, ?_⟩)))
      cases x <;> first | rfl | skip
      rename_i y pos
      have ny : env.kindOf y ≠ some .local := fun z => by
        have z' : c.sc.names.lookup y = some .local := by rw [← hs]; exact z
        have : nonLoc c (.Name y pos) = false := by show (!decide (c.sc.names.lookup y = some .local)) = false; rw [decide_eq_true z']; rfl
        rw [this] at nx; cases nx
      have : (env.kindOf y == some .local) = false := by simpa using ny
      simp only [this, Bool.false_and, Bool.false_eq_true, if_false]
theorem asg_swaps {c : Ctx} {tg v : Expr} {line : Nat} {env : Env} (hs : env.scope = c.sc) (h : asgB c tg v = true) : swapsWithSole [tg] v line env = pure false ∧ swappedStores [tg] v env = pure none := by
  unfold asgB at h
  simp only [Bool.and_eq_true] at h
  obtain ⟨h1, h2⟩ := h
  constructor
  · cases v <;> first | rfl | cases h1
  · rcases (Bool.or_eq_true _ _ ▸ h2 : _ ∨ _) with h2 | h5
    · rcases (Bool.or_eq_true _ _ ▸ h2 : _ ∨ _) with h3 | h3
      · cases v <;> first | rfl | (cases tg <;> first | rfl | cases h3)
      · unfold tupB at h3
        split at h3
        · split at h3
          · rename_i ts k p vs k2 p2
            unfold swappedStores
            rcases (Bool.or_eq_true _ _ ▸ h3 : _ ∨ _) with h4 | h4
            · simp only [h4, if_true]
              repeat (split <;> try rfl)
            · simp only [h4, Bool.true_or, if_true]
          · cases h3
        · cases h3
    · unfold celB at h5
      split at h5
      · cases v with
        | Tuple vs k2 p2 => exact swapped_cell hs h5
        | _ => rfl
      · cases h5
theorem each_one {tg : Expr} {env : Env} {t : Tg} (h : chkG c t tg = true) : (assignEach [tg] env).map (·.2) = [assign tg env] := each_cons h
theorem s_asg (hX : XOk c X C cl co EX) {t : Tg} {e : Ex} {tg v : Expr} {pos : Pos} (ha : asgB c tg v = true) (hg : chkG c t tg = true) (he : chkE c e v = true) : PS X (.Assign [tg] v pos) (liftS C EX (ws cl co (.asg t e))) := by
  obtain ⟨s1, s2⟩ := asg_swaps (line := pos.line) (env := X.env) hX.sc ha
  refine t_asg hX (ps_asg (sE e hX he).pe (sG hX t hg) s1 s2 (each_one hg)) (fun _ _ _ q => q) (fun σ H Q Q' h ⟨ev, hp, I, q⟩ => ⟨ev, hp, I, wE_mono hX.cm e _ _ _ _ (fun x hp q v H I k r n => h _ _ (q v H I k r n)) q⟩) (fun _ _ _ _ q => q)
theorem s_expr (hX : XOk c X C cl co EX) {e : Ex} {v : Expr} {pos : Pos} (hc : isCall v = true) (he : chkE c e v = true) : PS X (.Expr v pos) (liftS C EX (ws cl co (.expr e))) := by
  refine PS.imp (ps_expr (sE e hX he).pe (by cases v <;> first | rfl | cases hc)) fun D σ H ⟨ev, hp, I, q⟩ => ?_
  simp only [ws] at q
  refine ⟨ev, hp, I, wE_mono hX.cm e _ _ _ _ ?_ q⟩
  intro x hp1 q1 v H1 I1 k1 r1 n1
  exact q1 σ H1 I1 k1.ks
theorem s_ret (hX : XOk c X C cl co EX) {e : Ex} {v : Expr} {pos : Pos} (he : chkE c e v = true) : PS X (.Return (some v) pos) (liftS C EX (ws cl co (.ret e))) := by
  refine PS.imp (ps_ret (sE e hX he).pe) fun D σ H ⟨ev, hp, I, q⟩ => ?_
  simp only [ws] at q
  refine ⟨ev, hp, I, wE_mono hX.cm e _ _ _ _ ?_ q⟩
  intro x hp1 q1 v H1 I1 k1 r1 n1
  exact ret_ok I I1 r1 n1 q1
theorem s_retV (hX : XOk c X C cl co EX) {i : Nat} {v : Expr} {pos : Pos} (he : chkE c (.v i) v = true) : PS X (.Return (some v) pos) (liftS C EX (ws cl co (.retV i))) := by
  simp only [chkE] at he
  split at he
  · simp only [Bool.and_eq_true, decide_eq_true_eq] at he
    obtain ⟨v1, v2, v3⟩ := hX.vis he.2
    refine PS.imp (ps_ret (pe_var (i := i) (by rw [hX.N]; exact he.1) v1 v2 v3)) fun D σ H ⟨ev, hp, I, q⟩ => ?_
    simp only [ws] at q
    obtain ⟨x, ex, q⟩ := slotK_iff.mp q
    exact retV_ok I ex q
  · cases he
theorem s_retN (hX : XOk c X C cl co EX) {pos : Pos} : PS X (.Return none pos) (liftS C EX (ws cl co .retN)) :=
  PS.imp ps_retN fun D σ H ⟨ev, hp, I, q⟩ => by
    simp only [ws] at q
    exact ret_ok (x := .d .non) I I .non trivial q
theorem s_aug (hX : XOk c X C cl co EX) {i : Nat} {o : BOp} {e : Ex} {x v : Expr} {pos : Pos} (h0 : o ≠ .pow ∧ o ≠ .rep) (hg : tgB c i x = true) (he : chkE c e v = true) : PS X (.AugAssign x (opOf o) v pos) (liftS C EX (ws cl co (.aug i o e))) := by
  obtain ⟨r, hr, hop⟩ := iopBin_ok (X := X) (C := C) o h0.1 h0.2
  have hip : PIp X (opOf o) r := fun pins s σ H x y v u Q I rx ry q => hr pins s σ H x y v u Q I rx ry q
  have hps : PS X (.AugAssign x (opOf o) v pos) (tAug i (liftB C (wB cl co EX e)) r) := by
    cases x with
    | Name x px =>
      simp only [tgB, Bool.and_eq_true, decide_eq_true_eq] at hg
      obtain ⟨h1, h2⟩ := hg
      have hi : X.N[i]? = some x := by rw [hX.N]; exact h1
      split at h2
      · rename_i z
        have z' : X.env.scope.names.lookup x = some .local := by rw [hX.sc]; exact z
        exact ps_aug (hX.N ▸ hX.nd) hi (.inl z') (sB hX he (sE e hX he).pe) hip (.inr z')
      · rename_i z
        have z' : X.env.scope.names.lookup x = some .cell := by rw [hX.sc]; exact z
        exact ps_aug (hX.N ▸ hX.nd) hi (.inr z') (sB hX he (sE e hX he).pe) hip (.inl (hX.fnc h2 x))
      · cases h2
    | _ => simp [tgB] at hg
  refine PS.imp hps fun D σ H ⟨ev, hp, I, q⟩ => ?_
  simp only [ws] at q
  obtain ⟨x, ex, hn, q⟩ := slotK_iff.mp q
  obtain ⟨v, e2, rx⟩ := I.slot i x ex
  refine ⟨v, e2, ev, hp, I, wB_mono hX.cm e _ _ _ _ ?_ q⟩
  intro y hp1 q1 u H1 I1 k1 ry
  refine hop ⟨ev, σ, hp1, H1⟩ x y v u _ I1 hn (rx.ke k1) ry (opBin_mono ?_ q1)
  intro z hp2 q2 w H2 I2 k2 r2 n2
  obtain ⟨J, ks⟩ := I1.setX (i := i) I2 k2.ks r2 n2
  exact q2 _ _ J (k1.ks.trans ks)
theorem get_list : PGet X (rIxL X.K) := by
  intro pins s σ H o i ov iv Q I ro ri h
  obtain ⟨p, xs, j, z, rfl, rfl, hq, he, q⟩ := h
  cases ro
  obtain ⟨t, rfl⟩ := ri
  obtain ⟨its, r, pl, hz⟩ := I.list hq
  obtain ⟨n, h1, h2, h3, h4, h5⟩ := atI_get he
  obtain ⟨w, ew, rw'⟩ := r.get h2
  have hl := r.length
  have hn := line63
  have fin : EP X pins σ Q w s := ⟨z, H, I, rw', q⟩
  by_cases h0 : 0 ≤ j
  · have hj : j.toNat = n := by
      rw [seqIndex_of h0 h5] at h1
      exact Option.some.inj h1
    exact wpAny_getItem_list pl.isList h0 (by omega) (by rw [hj]; simpa using ew) fin
  · have hj : (j + (its.toArray.size : Int)).toNat = n := by
      rw [seqIndex_neg (by omega) h4] at h1
      rw [List.size_toArray, ← hl]
      exact Option.some.inj h1
    exact wpAny_getItem_list_neg pl.isList (by omega) (by rw [List.size_toArray] <;> omega) (by omega) (by rw [hj]; simpa using ew) fin
theorem opBin_here {o : BOp} {x y : SV} {hp : HpD} {Q Q' : SK} (h : ∀ z, Q z hp → Q' z hp) (q : opBin o x y hp Q) : opBin o x y hp Q' := by
  cases o <;> simp only [opBin] at q ⊢
  · split at q
    · exact h _ q
    · exact ⟨q.1, h _ q.2⟩
    · exact ⟨q.1, h _ q.2⟩
    · exact h _ q
    · exact onSome_mono q fun _ q => onSome_mono q fun _ q => ⟨q.1, h _ q.2⟩
  all_goals (split at q <;> first | exact h _ q | exact ⟨q.1, h _ q.2⟩ | exact q.elim)
theorem opBin_at {o : BOp} {x y : SV} {hp : HpD} {Q : SK} (h : opBin o x y hp Q) : opBin o x y hp fun z hp' => hp' = hp ∧ Q z hp' := opBin_here (fun z q => ⟨rfl, q⟩) h
theorem wr_sim (hc : CallMono cl) : ∀ (m : Ex) {ev : Ev} {hp : HpD} {Q : SK} {E : EK}, simB m = true → wr cl co m ev hp Q E → wr cl co m ev hp (fun x hp' => hp' = hp ∧ Q x hp') E
  | .v i, ev, hp, Q, E, _, h => by
    rw [wr] at h ⊢
    obtain ⟨x, ex, h⟩ := slotK_iff.mp h
    refine slotK_iff.mpr ⟨x, ex, ?_⟩
    cases x <;> first | exact ⟨rfl, h⟩ | exact h
  | .int i, ev, hp, Q, E, _, h => by
    rw [wr] at h ⊢
    exact ⟨rfl, h⟩
  | .bin o a b, ev, hp, Q, E, z, h => by
    simp only [simB, Bool.and_eq_true] at z
    simp only [wr] at h ⊢
    have bor : ∀ (m : Ex), simB m = true → (∀ {Q : SK}, wr cl co m ev hp Q E → wr cl co m ev hp (fun x hp' => hp' = hp ∧ Q x hp') E) → ∀ {Q : SK}, borK m ev hp (fun Q => wr cl co m ev hp Q E) Q → borK m ev hp (fun Q => wr cl co m ev hp Q E) fun x hp' => hp' = hp ∧ Q x hp' := fun m _ f Q q => by
      cases hv : isV m with
      | false => rw [borK_ne hv] at q ⊢; exact f q
      | true =>
        cases m <;> first | cases hv | skip
        obtain ⟨x, ex, q⟩ := slotK_iff.mp (show slotK ev _ _ from q)
        exact slotK_iff.mpr ⟨x, ex, rfl, q⟩
    have mono : ∀ (m : Ex) {Q Q' : SK}, SKle Q Q' → borK m ev hp (fun Q => wr cl co m ev hp Q E) Q → borK m ev hp (fun Q => wr cl co m ev hp Q E) Q' := fun m Q Q' h q => borK_mono h (fun q => wr_mono hc m ev hp _ _ _ _ h (fun _ _ _ z => z) q) q
    refine mono a ?_ (bor a z.1 (fun q => wr_sim hc a z.1 q) h)
    rintro x hp1 ⟨e1, h2⟩
    subst e1
    refine mono b ?_ (bor b z.2 (fun q => wr_sim hc b z.2 q) h2)
    rintro y hp2 ⟨e2, h3⟩
    subst e2
    exact opBin_at h3
theorem s_augS (hX : XOk c X C cl co EX) {o i e : Ex} {b : BOp} {x y v : Expr} {p2 pos : Pos} (h0 : b ≠ .pow ∧ b ≠ .rep) (hsim : simB i = true) (hs : notSl y = true) (ho : chkE c o x = true) (hi : chkE c i y = true) (he : chkE c e v = true) :
    PS X (.AugAssign (.Subscript x y p2) (opOf b) v pos) (liftS C EX (ws cl co (.augS o i b e))) := by
  obtain ⟨r, hr, hop⟩ := iopBin_ok (X := X) (C := C) b h0.1 h0.2
  have hip : PIp X (opOf b) r := fun pins s σ H x y v u Q I rx ry q => hr pins s σ H x y v u Q I rx ry q
  refine PS.imp (ps_augS (e_mut hX ho) (sE i hX hi).pe get_list (sE e hX he).pe hip set_list (by intros; cases y <;> first | rfl | cases hs)) fun D σ H ⟨ev, hp, I, q⟩ => ?_
  simp only [ws] at q
  refine ⟨ev, hp, I, mutK_mono (fun l hp1 st sm q1 a H1 I1 k1 m1 => ?_) (fun Q Q' hQ q => wE_mono hX.cm o _ _ _ _ hQ q) q⟩
  refine ⟨ev, hp1, I1, wE_mono hX.cm i _ _ _ _ ?_ (wr_sim hX.cm i hsim q1)⟩
  rintro xj hp2 ⟨rfl, q2⟩ vj H2 I2 k2 rj nj
  unfold intK at q2
  split at q2
  · rename_i j
    rw [rj.int]
    obtain ⟨n, hn, q2⟩ := onSome_iff.mp q2
    obtain ⟨d, hd, hnum, q2⟩ := onSome_iff.mp q2
    obtain ⟨vs, e2, t2⟩ := m1.now H2 I2 k2
    obtain ⟨w, ew, rw2⟩ := t2.get hd
    have hat : L2.atI vs j = some w := by
      unfold L2.atI
      rw [← t2.length, hn]
      exact ew
    refine ⟨a, vs, j, w, rfl, rfl, .inl (.inl e2), hat, ev, hp2, I2, wE_mono hX.cm e _ _ _ _ ?_ q2⟩
    intro y hp3 q3 u H3 I3' k3 ry ny
    refine hop ⟨ev, σ, hp3, H3⟩ (.d d) y w u _ I3' hnum (RepP.ke k3 rw2) ry (opBin_mono ?_ q3)
    intro z hp4 q4 vz H4 I4 k4 rz nz
    obtain ⟨dz, q4, rdz⟩ := RepB.asD (ps := ⟨ev, σ, hp3, H3⟩) rz nz q4
    obtain ⟨vs5, h5, t5, put⟩ := m1.put hp4 H4 _ _ I4 (k2.trans (k3.trans k4)) q4
    obtain ⟨ev5, hp5, q5, I5, k5⟩ := put (vs5.set n vz) (Reps.set rdz n t5)
    refine ⟨a, vs5, j, n, rfl, rfl, h5, by rw [← t5.length]; exact hn, q5 _ _ I5 ?_⟩
    exact ((k1.trans k2).trans (k3.trans k4)).ks.trans k5
  · exact q2.elim
end
end Mi

namespace Mi
open PySem PySem.Spec PyProof.Rows L2

/-! ### several values at once, lists of one's own among them -/
def BC.gh (C : BC) (As : List Addr) : BC := { C with G := fun a => a ∈ As ∨ C.G a }
theorem gh_nil (C : BC) : C.gh [] = C := by
  cases C with
  | mk K mg pw G H0 hp0 =>
    show BC.mk K mg pw (fun a => a ∈ [] ∨ G a) H0 hp0 = _
    congr 1
    funext a
    exact propext ⟨fun z => z.elim (fun z => nomatch z) id, .inr⟩
theorem gh_cons (C : BC) (a : Addr) (As : List Addr) : C.gh (a :: As) = (C.gh As).wG a := by
  cases C with
  | mk K mg pw G H0 hp0 =>
    show BC.mk K mg pw (fun b => b ∈ a :: As ∨ G b) H0 hp0 = BC.mk K mg pw (fun b => b = a ∨ (b ∈ As ∨ G b)) H0 hp0
    congr 1
    funext b
    refine propext ⟨fun z => ?_, fun z => ?_⟩
    · rcases z with z | z
      · rcases List.mem_cons.mp z with z | z
        · exact .inl z
        · exact .inr (.inl z)
      · exact .inr (.inr z)
    · rcases z with z | z | z
      · exact .inl (by rw [z]; exact .head _)
      · exact .inl (.tail _ z)
      · exact .inr z
theorem gh_wG (C : BC) (a : Addr) (As : List Addr) : (C.wG a).gh As = C.gh (a :: As) := by
  cases C with
  | mk K mg pw G H0 hp0 =>
    show BC.mk K mg pw (fun b => b ∈ As ∨ (b = a ∨ G b)) H0 hp0 = BC.mk K mg pw (fun b => b ∈ a :: As ∨ G b) H0 hp0
    congr 1
    funext b
    refine propext ⟨fun z => ?_, fun z => ?_⟩
    · rcases z with z | z | z
      · exact .inl (.tail _ z)
      · exact .inl (by rw [z]; exact .head _)
      · exact .inr z
    · rcases z with z | z
      · rcases List.mem_cons.mp z with z | z
        · exact .inr (.inl z)
        · exact .inl z
      · exact .inr (.inr z)
/-- values beside their addresses -/
inductive PV (C : BC) (p : Pt) : List SV → List V → List Addr → Prop
  | nil : PV C p [] [] []
  | d {x : D} {v : V} {xs : List SV} {vs : List V} {As : List Addr} : RepP C p x v → PV C p xs vs As → PV C p (.d x :: xs) (v :: vs) As
  | o {l : List D} {a : Addr} {ws : List V} {xs : List SV} {vs : List V} {As : List Addr} : p.H a = some (.lst ws) → p.hp a = none → RepsP C p l ws → PV C p xs vs As → PV C p (.ol l :: xs) (.ref a :: vs) (a :: As)
/-- to another place -/
theorem PV.move {C C' : BC} {p p' : Pt} (hK : C'.K = C.K) (hm : C'.mg = C.mg) (hH : p'.H = p.H) (hh : p'.hp = p.hp) (k : Kp p.H (Fb C p) p'.H (Fb C' p')) : ∀ {xs : List SV} {vs : List V} {As : List Addr}, PV C p xs vs As → PV C' p' xs vs As
  | _, _, _, .nil => .nil
  | _, _, _, .d r t => .d (by have z := Rep.keep k r; rw [← hK, ← hm] at z; exact z) (PV.move hK hm hH hh k t)
  | _, _, _, .o e f r t => .o (by rw [hH]; exact e) (by rw [hh]; exact f) (by have z := Reps.keep k r; rw [← hK, ← hm] at z; exact z) (PV.move hK hm hH hh k t)
theorem PV.len {C : BC} {p : Pt} : ∀ {xs : List SV} {vs : List V} {As : List Addr}, PV C p xs vs As → xs.length = vs.length
  | _, _, _, .nil => rfl
  | _, _, _, .d _ t => by simp [PV.len t]
  | _, _, _, .o _ _ _ t => by simp [PV.len t]
/-- they come to their slots -/
theorem PV.set {C : BC} : ∀ {is : List Nat} {xs : List SV} {vs : List V} {As : List Addr} {q : Pt} {ev' : Ev}, I3 (C.gh As) q → PV (C.gh As) q xs vs As → As.Nodup → (∀ a ∈ As, C.H0 a = none ∧ ¬ C.G a) → setAllS is xs q.ev = some ev' →
    is.length = vs.length ∧ I3 C { q with ev := ev', st := setSt is vs q.st } ∧ ∀ a, Pt.own { q with ev := ev', st := setSt is vs q.st } a → q.own a ∨ a ∈ As
  | [], [], _, _, q, ev', I, h, nd, fr, e => by
    cases h
    simp only [setAllS] at e
    cases e
    rw [gh_nil] at I
    exact ⟨rfl, I, fun a z => .inl z⟩
  | i :: is, x :: xs, _, _, q, ev', I, h, nd, fr, e => by
    simp only [setAllS] at e
    cases h with
    | @d x v _ vs As r t =>
      obtain ⟨I1, k1⟩ := I.setV (i := i) r
      have t1 := PV.move (C := C.gh _) (C' := C.gh _) (p := q) (p' := { q with ev := q.ev.set i (some (.d x)), st := q.st.set i (some v) }) rfl rfl rfl rfl k1.kp t
      obtain ⟨h1, h2, h3⟩ := PV.set I1 t1 nd fr e
      refine ⟨by simp [h1], h2, fun a z => ?_⟩
      rcases h3 a z with z | z
      · rcases z with ⟨j, l, e1, e2⟩
        rcases set_at e1 with ⟨_, z, _⟩ | ⟨hj, e1'⟩
        · cases z
        · rcases set_at e2 with ⟨z, _⟩ | ⟨_, e2'⟩
          · exact (hj z).elim
          · exact .inl ⟨j, l, e1', e2'⟩
      · exact .inr z
    | @o l a ws _ vs As e1 f1 r t =>
      rw [gh_cons] at I r t
      obtain ⟨nd1, nd2⟩ := List.nodup_cons.mp nd
      have g0 : ¬ (C.gh As).G a := fun z => z.elim (fun z => nd1 z) (fun z => (fr a (.head _)).2 z)
      obtain ⟨I1, kp, ow⟩ := I3.setG (i := i) I e1 f1 g0 r (fr a (.head _)).1
      have t1 := PV.move (C := (C.gh As).wG a) (C' := C.gh As) (p := q) (p' := { q with ev := q.ev.set i (some (.ol l)), st := q.st.set i (some (.ref a)) }) rfl rfl rfl rfl kp t
      obtain ⟨h1, h2, h3⟩ := PV.set I1 t1 nd2 (fun b hb => fr b (.tail _ hb)) e
      refine ⟨by simp [h1], h2, fun b z => ?_⟩
      rcases h3 b z with z | z
      · rcases ow b z with z | z
        · exact .inl z
        · exact .inr (by rw [z]; exact .head _)
      · exact .inr (.tail _ z)
  | [], _ :: _, _, _, _, _, _, _, _, _, e => by simp [setAllS] at e
  | _ :: _, [], _, _, _, _, _, _, _, _, e => by simp [setAllS] at e
/-- more is held by those outside -/
theorem kp_gh {C : BC} {p p' : Pt} {As : List Addr} (k : KE p p') (fr : ∀ a ∈ As, p.H a = none) : Kp p.H (Fb C p) p'.H (Fb (C.gh As) p') := fun u o e f => by
  obtain ⟨x, y⟩ := k.ks.kp (C := C) u o e f
  refine ⟨x, fun z => ?_⟩
  rcases z with z | z | z | z
  · exact y (.inl z)
  · exact y (.inr (.inl z))
  · have := fr u z
    rw [e] at this; cases this
  · exact y (.inr (.inr z))
section
variable {c : Ctx} {X : Cx} {cl : CallT} {co : ConT}
theorem XOk.gh {C : BC} {EX : Ev → EK} (hX : XOk c X C cl co EX) (D : Addr) : XOk c X (C.wG D) cl co noX := by
  refine ⟨hX.N, hX.nd, hX.sc, hX.calm, hX.K, hX.mg, hX.pw, hX.hu, hX.gd, hX.bi, hX.cm, fun f hf => (hX.fn f hf).ex.elim fun k h => ⟨k, h⟩, hX.con, hX.tb, hX.pass, hX.fnc, ?_, hX.cls, hX.rm, hX.tops⟩
  rintro u s' ⟨_, _, _, _, _, _, _, _, _, _, _, _, _, _, _, _, w⟩
  obtain ⟨_, _, _, _, _, _, z⟩ := w
  exact z.elim
def contP (C : BC) (p : Pt) (Q : List V → Hp → Prop) : List SV → HpD → Prop := fun xs hp' => ∀ vs H' As, I3 (C.gh As) (p.wh hp' H') → KE p (p.wh hp' H') → PV (C.gh As) (p.wh hp' H') xs vs As → (∀ a ∈ As, p.H a = none) → As.Nodup → Q vs H'
def liftP (c : Ctx) (X : Cx) (cl : CallT) (co : ConT) (es : List Ex) : TA := fun σ H Q => ∃ (C : BC) (EX : Ev → EK) (ev : Ev) (hp : HpD), XOk c X C cl co EX ∧ I3 C ⟨ev, σ, hp, H⟩ ∧ wps cl co es ev hp (contP C ⟨ev, σ, hp, H⟩ Q) (EX ev)
theorem pa_par : ∀ (es : List Ex) {xs : List Expr}, chkL c es xs = true → PA X xs (liftP c X cl co es)
  | [], xs, h => by
    simp only [chkL] at h
    split at h
    · refine PA.imp pa_nil fun σ H Q ⟨C, EX, ev, hp, hX, I, q⟩ => ?_
      simp only [wps] at q
      exact q [] H [] (by rw [gh_nil]; exact I) (KE.refl _) .nil (fun a z => nomatch z) List.nodup_nil
    · cases h
  | e :: r, xs, h => by
    simp only [chkL] at h
    split at h
    · rename_i x xs
      simp only [Bool.and_eq_true] at h
      obtain ⟨⟨h1, h2⟩, h3⟩ := h
      have ih := pa_par r h3
      -- the first one, at whatever ghost
      have pe : PE X x (fun σ H Q => ∃ (C : BC) (EX : Ev → EK), XOk c X C cl co EX ∧ liftE C (wE cl co EX e) σ H Q) := ⟨fun pins s σ H Q I ⟨C, EX, hX, q⟩ => (sE e hX h2).pe.run pins s σ H Q I q⟩
      refine PA.imp (pa_cons pe ih (star_of h1)) fun σ H Q ⟨C, EX, ev, hp, hX, I, q⟩ => ?_
      simp only [wps] at q
      refine ⟨C, EX, hX, ev, hp, I, wE_mono hX.cm e _ _ _ _ ?_ q⟩
      intro y hp1 q1 v H1 I1 k1 r1 n1
      cases y with
      | d y =>
        refine ⟨C, EX, ev, hp1, hX, I1, wps_mono hX.cm r _ _ _ _ _ _ ?_ (fun _ _ _ z => z) q1⟩
        intro ys hp2 q2 vs H2 As I2 k2 pv fr nd
        refine q2 (v :: vs) H2 As I2 (k1.trans k2) (.d (Rep.keep (kp_gh k2 fr) r1) pv) (fun a ha => k1.4 a (fr a ha)) nd
      | ol l =>
        obtain ⟨b, ws0, rfl, e0, f0, g0, _⟩ := r1
        obtain ⟨hn, IG, ws, e1, rG⟩ := n1 b rfl
        refine ⟨C.wG b, noX, ev, hp1, hX.gh b, IG, wps_mono hX.cm r _ _ _ _ _ _ ?_ (fun _ _ _ z => z) q1⟩
        intro ys hp2 q2 vs H2 As I2 k2 pv fr nd
        have rG2 := Reps.keep (kp_gh (C := C.wG b) k2 fr) rG
        rw [gh_wG] at I2 pv rG2
        have hb1 : H1 b ≠ none := by
          have e1' : H1 b = some (.lst ws) := e1
          rw [e1']; exact nofun
        refine q2 (.ref b :: vs) H2 (b :: As) I2 (k1.trans k2) (.o (k2.3 b _ e1 f0).1 (k2.3 b _ e1 f0).2 rG2 pv) (fun a ha => ?_) (List.nodup_cons.mpr ⟨fun z => hb1 (fr b z), nd⟩)
        rcases List.mem_cons.mp ha with z | z
        · rw [z]; exact hn
        · exact k1.4 a (fr a z)
      | od l => exact r1.elim
    · cases h
theorem liftP_mono {es : List Ex} {σ : L2.St} {H : Hp} {Q Q' : List V → Hp → Prop} (h : ∀ us H, Q us H → Q' us H) (q : liftP c X cl co es σ H Q) : liftP c X cl co es σ H Q' := by
  obtain ⟨C, EX, ev, hp, hX, I, q⟩ := q
  exact ⟨C, EX, ev, hp, hX, I, wps_mono hX.cm es _ _ _ _ _ _ (fun xs hp q vs H' As I' k pv fr nd => h _ _ (q vs H' As I' k pv fr nd)) (fun _ _ _ z => z) q⟩
end
end Mi

namespace Mi
open PySem PySem.Spec PyProof.Rows L2
section
variable {c : Ctx} {X : Cx} {C : BC} {cl : CallT} {co : ConT} {EX : Ev → EK}
/-- name = [..] -/
theorem s_asgLc (hX : XOk c X C cl co EX) {i : Nat} {e : Ex} {tg v : Expr} {pos : Pos} (hc : isComp e = true) (hl : lcB c i tg v = true) (he : chkE c e v = true) : PS X (.Assign [tg] v pos) (liftS C EX (ws cl co (.asg (.n i) e))) := by
  cases e <;> first | cases hc | skip
  rename_i m tgs it t own
  unfold lcB at hl
  split at hl
  · rename_i y py
    split at hl
    · rename_i elt gs scope vp
      simp only [Bool.and_eq_true, decide_eq_true_eq, Bool.not_eq_true'] at hl
      obtain ⟨⟨⟨⟨l1, l2⟩, l3⟩, l4⟩, l5⟩ := hl
      simp only [chkE] at he
      split at he
      · rename_i elt' tge iter ifs k scope' pos' heq
        cases heq
        simp only [Bool.and_eq_true] at he
        obtain ⟨⟨⟨⟨⟨⟨⟨h1, h2⟩, h3⟩, h4⟩, h5⟩, h6⟩, h7⟩, h8⟩ := he
        obtain rfl := of_decide_eq_true h1
        have h4' := of_decide_eq_true h4
        have hts : ∀ X' C', XOk (relC c scope) X' C' cl co noX → PTs X' ifs (liftT C' (wE cl co noX t)) := fun X' C' hX' => by
          cases ifs with
          | nil =>
            have ht : t = .bl true := by
              clear h7 h5
              cases t with
              | bl b =>
                cases b with
                | true => rfl
                | false => cases h6
              | _ => cases h6
            subst ht
            refine ⟨fun pins s σ H Q I q => pts_nil.run pins s σ H Q I ?_⟩
            obtain ⟨ev, hp, I', q⟩ := q
            simp only [wE, wr] at q
            exact q H I' (KE.refl _)
          | cons x r =>
            cases r with
            | nil => exact pts_one (sE t hX' h6).pt
            | cons y r => cases h6
        obtain ⟨t0, f, _, ps⟩ := e_compR hX h2 h3 h4' (sI it hX h5.1 true tge h5.2) (folded_of h8) hts fun X' C' hX' => (sE m hX' h7).pe
        have hk : X.env.scope.kind = .function := by rw [hX.sc]; exact l1
        have hy : X.env.scope.names.lookup y = some .local := by rw [hX.sc]; exact of_decide_eq_true l3
        have hsw := sw_true (elt := elt) (gs := [⟨tge, iter, ifs, 0⟩]) (scope := scope) (pos := vp) (py := py) (y := y) (l := pos.line) (env := X.env) hk hy l4 l5
        refine PS.imp (ps (i := i) (by rw [hX.N]; exact l2) hy hsw) fun D σ H ⟨ev, hp, I, q⟩ => ?_
        simp only [ws] at q
        refine f σ H _ ⟨ev, hp, I, wE_mono hX.cm _ _ _ _ _ ?_ q⟩
        intro x hp1 q1 v H1 I1 k1 r1 n1
        simp only [wg] at q1
        obtain ⟨J, ks⟩ := I.setX (i := i) I1 k1.ks r1 n1
        exact q1 _ _ J ks
      · cases he
    · cases hl
  · cases hl
/-- .append, .extend -/
theorem s_mu (hX : XOk c X C cl co EX) {m : Mut} {o a : Ex} {x v : Expr} {name : Str} {apos cpos pos : Pos} (hn : (match m with
      | .append => decide (name = ("append" : Str))
      | .extend => decide (name = ("extend" : Str))) = true) (hl : (apos.endLine == cpos.line) = true) (pv : plainE v = true) (hr : recvB x = true) (ho : chkE c o x = true) (ha : chkE c a v = true) :
    PS X (.Expr (.Call (.Attribute x name apos) [v] [] cpos) pos) (liftS C EX (ws cl co (.mu m o a))) := by
  have hb : attributeBase x name X.env (eval x X.env) = eval x X.env := by cases x <;> first | rfl | cases hr
  have s0 : starEach [v] X.env = [(false, eval v X.env)] := star_of pv
  have hfew : ((backTo cpos (starEach [v] X.env)).all (fun x => !x.1) && (backToKw cpos (keywordEach [] X.env)).all (fun x => x.1.isSome)
      && decide (([v] : List Expr).length + ([] : List Keyword).length + (if ([] : List Keyword).isEmpty then 0 else 1) < 30)) = true := by rw [s0]; rfl
  cases m with
  | append =>
    obtain rfl := of_decide_eq_true hn
    refine PS.imp (ps_expr (pe_bm F.plainAttrs_list F.slot_list_append F.type_list_append mt_append (e_mut hX ho) (pa_cons (sE a hX ha).pe pa_nil (star_of pv)) hb hfew hl (star_of pv))) fun D σ H ⟨ev, hp, I, q⟩ => ?_
    simp only [ws] at q
    refine ⟨ev, hp, I, mutK_mono (fun l hp1 st sm q1 u H1 I1 k1 m1 => ?_) (fun Q Q' hQ q => wE_mono hX.cm o _ _ _ _ hQ q) q⟩
    obtain ⟨vs1, e1, t1⟩ := m1.now H1 I1 (KE.refl _)
    refine ⟨.inl ⟨rfl, vs1, .inl (.inl e1)⟩, ev, hp1, I1, wE_mono hX.cm a _ _ _ _ (valK_cont I1 fun d hp2 q2 w H2 I2 k2 r2 => ?_) q1⟩
    obtain ⟨hz, q2⟩ := q2
    obtain ⟨vs2, e2, t2, put⟩ := m1.put hp2 H2 _ _ I2 k2 q2
    obtain ⟨ev3, hp3, q3, I3', k3⟩ := put (vs2 ++ [w]) (t2.append (.cons r2 .nil))
    exact ⟨u, vs2, w, rfl, rfl, e2, by rw [← t2.length]; exact hz, q3 _ _ I3' ((k1.trans k2).ks.trans k3)⟩
  | extend =>
    obtain rfl := of_decide_eq_true hn
    refine PS.imp (ps_expr (pe_bm F.plainAttrs_list F.slot_list_extend F.type_list_extend mt_extend (e_mut hX ho) (pa_cons (sB hX ha (sE a hX ha).pe) pa_nil (star_of pv)) hb hfew hl (star_of pv))) fun D σ H ⟨ev, hp, I, q⟩ => ?_
    simp only [ws] at q
    refine ⟨ev, hp, I, mutK_mono (fun l hp1 st sm q1 u H1 I1 k1 m1 => ?_) (fun Q Q' hQ q => wE_mono hX.cm o _ _ _ _ hQ q) q⟩
    obtain ⟨vs1, e1, t1⟩ := m1.now H1 I1 (KE.refl _)
    refine ⟨.inl ⟨rfl, vs1, .inl (.inl e1)⟩, ev, hp1, I1, wB_mono hX.cm a _ _ _ _ ?_ q1⟩
    intro y hp2 q2 w H2 I2 k2 r2
    obtain ⟨m, hm, hz, q3⟩ := onSome_iff.mp q2
    clear q2
    cases y with
    | d y => cases hm
    | od y => cases hm
    | ol l2 =>
      cases hm
      obtain ⟨b, ws2, rfl, h1, h2, h3, h4⟩ := r2
      obtain ⟨vs2, e2, t2, put⟩ := m1.put hp2 H2 _ _ I2 k2 q3
      obtain ⟨ev3, hp3, q4, I3', k3⟩ := put (vs2 ++ ws2) (t2.append h4)
      exact ⟨u, b, vs2, ws2, rfl, rfl, e2, h1, by rw [← t2.length, ← h4.length]; exact hz, q4 _ _ I3' ((k1.trans k2).ks.trans k3)⟩
/-- a, b = x, y -/
theorem locs_each (hX : XOk c X C cl co EX) {line : Nat} : ∀ {is : List Nat} {es : List Expr}, locsB c line is es = true → ∃ xs : List (Str × Pos), es = xs.map (fun x => .Name x.1 x.2) ∧ is.length = xs.length ∧
    (∀ (n : Nat) (i : Nat) (x : Str × Pos), is[n]? = some i → xs[n]? = some x → X.N[i]? = some x.1 ∧ X.env.scope.names.lookup x.1 = some .local ∧ x.2.line = line)
  | [], es, h => by
    simp only [locsB] at h
    split at h
    · exact ⟨[], rfl, rfl, fun n i x e => by simp at e⟩
    · cases h
  | i :: is, es, h => by
    simp only [locsB] at h
    split at h
    · rename_i x p es
      simp only [Bool.and_eq_true, decide_eq_true_eq, beq_iff_eq] at h
      obtain ⟨⟨⟨h1, h2⟩, h3⟩, h4⟩ := h
      obtain ⟨xs, e1, e2, e3⟩ := locs_each hX h4
      refine ⟨(x, p) :: xs, by rw [e1]; rfl, by simp [e2], fun n j y z1 z2 => ?_⟩
      cases n with
      | zero =>
        simp at z1 z2
        subst z1; subst z2
        exact ⟨by rw [hX.N]; exact h1, by rw [hX.sc]; exact of_decide_eq_true h2, h3⟩
      | succ n => exact e3 n j y (by simpa using z1) (by simpa using z2)
    · cases h
theorem sw2 {env : Env} {x y : Str} {px py pt pt2 : Pos} {kt k2 : Nat} {a b : Expr} (hk : env.scope.kind = .function) (hx : env.scope.names.lookup x = some .local) (hy : env.scope.names.lookup y = some .local) (hl : py.line = px.line) (hxy : x ≠ y)
    (hs : ∀ e ∈ [a, b], plainE e = true) (hf : [a, b].all (foldedForSure 8) = false) (hc : [a, b].all (constantsAlone 8) = false) :
    swappedStores [.Tuple [.Name x px, .Name y py] kt pt] (.Tuple [a, b] k2 pt2) env = pure (some [x, y]) := by
  have hb : env.blockKind = .function := by unfold Env.blockKind; rw [hk]; rfl
  have hx' : env.kindOf x = some .local := hx
  have hy' : env.kindOf y = some .local := hy
  have hd : ([x, y] : List Str).eraseDups = [x, y] := by
    rw [List.eraseDups_cons]
    have : ((y == x) : Bool) = false := by simpa using fun z => hxy z.symm
    simp [this, List.eraseDups_cons]
  unfold swappedStores
  simp only [List.length_cons, List.length_nil, hb, hf, hc, List.filterMap_cons, List.filterMap_nil, hx', hy', Expr.pos, List.head?_cons, Option.map_some, Option.getD_some, hl, hd, beq_self_eq_true, bne_self_eq_false, Bool.and_self, Bool.or_self, Bool.not_true, Bool.false_or, Bool.or_false, Bool.true_or, Bool.or_true, if_true, Bool.false_eq_true, if_false]
  refine if_neg fun z => ?_
  obtain ⟨e, he, z⟩ := List.any_eq_true.mp z
  have h1 := hs e he
  cases e <;> first | exact absurd h1 Bool.false_ne_true | exact absurd z Bool.false_ne_true
theorem sw3 {env : Env} {x y z : Str} {px py pz pt pt2 : Pos} {kt k2 : Nat} {a b d : Expr} (hk : env.scope.kind = .function) (hx : env.scope.names.lookup x = some .local) (hy : env.scope.names.lookup y = some .local) (hz : env.scope.names.lookup z = some .local) (hl : py.line = px.line) (hl2 : pz.line = px.line)
    (hxy : x ≠ y) (hxz : x ≠ z) (hyz : y ≠ z)
    (hs : ∀ e ∈ [a, b, d], plainE e = true) (hf : [a, b, d].all (foldedForSure 8) = false) (hc : [a, b, d].all (constantsAlone 8) = false) :
    swappedStores [.Tuple [.Name x px, .Name y py, .Name z pz] kt pt] (.Tuple [a, b, d] k2 pt2) env = pure (some [x, y, z]) := by
  have hb : env.blockKind = .function := by unfold Env.blockKind; rw [hk]; rfl
  have hx' : env.kindOf x = some .local := hx
  have hy' : env.kindOf y = some .local := hy
  have hz' : env.kindOf z = some .local := hz
  have hd : ([x, y, z] : List Str).eraseDups = [x, y, z] := by
    rw [List.eraseDups_cons]
    have h1 : ((y == x) : Bool) = false := by simpa using fun z => hxy z.symm
    have h2 : ((z == x) : Bool) = false := by simpa using fun z => hxz z.symm
    have h3 : ((z == y) : Bool) = false := by simpa using fun z => hyz z.symm
    simp [h1, h2, h3, List.eraseDups_cons]
  unfold swappedStores
  simp only [List.length_cons, List.length_nil, hb, hf, hc, List.filterMap_cons, List.filterMap_nil, hx', hy', hz', Expr.pos, List.head?_cons, Option.map_some, Option.getD_some, hl, hl2, hd, beq_self_eq_true, bne_self_eq_false, Bool.and_self, Bool.or_self, Bool.not_true, Bool.false_or, Bool.or_false, Bool.true_or, Bool.or_true, if_true, Bool.false_eq_true, if_false]
  refine if_neg fun z => ?_
  obtain ⟨e, he, z⟩ := List.any_eq_true.mp z
  have h1 := hs e he
  cases e <;> first | exact absurd h1 Bool.false_ne_true | exact absurd z Bool.false_ne_true
theorem nodup_ne {N : List Str} (hN : N.Nodup) {i j : Nat} {x y : Str} (hi : N[i]? = some x) (hj : N[j]? = some y) (hij : i ≠ j) : x ≠ y := fun e => by
  subst e
  obtain ⟨h1, e1⟩ := List.getElem?_eq_some_iff.mp hi
  obtain ⟨h2, e2⟩ := List.getElem?_eq_some_iff.mp hj
  have hp := List.pairwise_iff_getElem.mp hN
  rcases Nat.lt_or_gt_of_ne hij with z | z
  · exact hp i j h1 h2 z (e1.trans e2.symm)
  · exact hp j i h2 h1 z (e2.trans e1.symm)
theorem s_par (hX : XOk c X C cl co EX) {is : List Nat} {es : List Ex} {ts vs : List Expr} {k k2 : Nat} {p1 p2 pos : Pos} (hl : (is.length == 2 || is.length == 3) = true) (hk : c.sc.kind = .function) (hd : is.Nodup) (hn : locsB c (lineOf ts) is ts = true) (he : chkL c es vs = true)
    (hf : vs.all (foldedForSure 8) = false) (hc : vs.all (constantsAlone 8) = false) (hlen : vs.length = is.length) : PS X (.Assign [.Tuple ts k p1] (.Tuple vs k2 p2) pos) (liftS C EX (ws cl co (.par is es))) := by
  obtain ⟨xs, rfl, e2, hx⟩ := locs_each hX hn
  have SLs := sL es hX he
  have hk' : X.env.scope.kind = .function := by rw [hX.sc]; exact hk
  have pp := pa_par (X := X) (cl := cl) (co := co) es he
  have key : ∀ (D : Ends) σ H, liftS C EX (ws cl co (.par is es)) D σ H → liftP c X cl co es σ H fun us H1 => is.length = us.length ∧ D.nx (setSt is us σ) H1 := fun D σ H ⟨ev, hp, I, q⟩ => by
    simp only [ws] at q
    refine ⟨C, EX, ev, hp, hX, I, wps_mono hX.cm es _ _ _ _ _ _ ?_ (fun _ _ _ z => z) q⟩
    intro xs hp1 q1 us H1 As I1 k1 pv fr nd
    obtain ⟨ev', e', q1⟩ := onSome_iff.mp q1
    obtain ⟨h1, h2, h3⟩ := PV.set I1 pv nd (fun a ha => ⟨I.up a (fr a ha), (I.fresh_free (fr a ha)).2.2⟩) e'
    refine ⟨h1, q1 _ _ h2 ⟨fun a o e f g => ⟨(k1.3 a o e f).1, (k1.3 a o e f).2, fun z => ?_⟩, k1.4⟩⟩
    rcases h3 a z with z | z
    · exact g ((k1.own a).mp z)
    · have e' : H a = some o := e
      have z' : H a = none := fr a z
      rw [z'] at e'; cases e'
  match is, hl, hd, xs, e2, hx, vs, hlen, key with
  | [i, j], _, hd, [x, y], _, hx, [a, b], _, key =>
    obtain ⟨x1, x2, x3⟩ := hx 0 i x rfl rfl
    obtain ⟨y1, y2, y3⟩ := hx 1 j y rfl rfl
    have hij : i ≠ j := by
      intro z
      subst z
      simp at hd
    refine PS.imp (ps_par hX.calm hX.nd x1 y1 hij x2 y2 pp (sw2 hk' x2 y2 (y3.trans x3.symm) (nodup_ne hX.nd x1 y1 hij) SLs.pl hf hc)) fun D σ H q => ?_
    refine liftP_mono (fun us H1 ⟨h1, h2⟩ => ?_) (key D σ H q)
    match us, h1, h2 with
    | [v, w], _, h2 => exact ⟨v, w, rfl, h2⟩
  | [i, j, l], _, hd, [x, y, z], _, hx, [a, b, d], _, key =>
    obtain ⟨x1, x2, x3⟩ := hx 0 i x rfl rfl
    obtain ⟨y1, y2, y3⟩ := hx 1 j y rfl rfl
    obtain ⟨z1, z2, z3⟩ := hx 2 l z rfl rfl
    have hij : i ≠ j := by
      intro z
      subst z
      simp at hd
    have hil : i ≠ l := by
      intro z
      subst z
      simp at hd
    have hjl : j ≠ l := by
      intro z
      subst z
      simp at hd
    refine PS.imp (ps_par3 hX.calm hX.nd x1 y1 z1 hij hil hjl x2 y2 z2 pp (sw3 hk' x2 y2 z2 (y3.trans x3.symm) (z3.trans x3.symm) (nodup_ne hX.nd x1 y1 hij) (nodup_ne hX.nd x1 z1 hil) (nodup_ne hX.nd y1 z1 hjl) SLs.pl hf hc)) fun D σ H q => ?_
    refine liftP_mono (fun us H1 ⟨h1, h2⟩ => ?_) (key D σ H q)
    match us, h1, h2 with
    | [u, v, w], _, h2 => exact ⟨u, v, w, rfl, h2⟩
end
end Mi

set_option maxHeartbeats 2000000
namespace Mi
open PySem PySem.Spec PyProof.Rows L2

/-! ### raise -/
section
variable {c : Ctx} {X : Cx} {C : BC} {cl : CallT} {co : ConT} {EX : Ev → EK}
theorem Paired.app {α β : Type} {R : α → β → Prop} : ∀ {l l2 : List α} {m m2 : List β}, PySem.Paired R l m → PySem.Paired R l2 m2 → PySem.Paired R (l ++ l2) (m ++ m2)
  | _, _, _, _, .nil, s => s
  | _, _, _, _, .cons r t, s => .cons r (Paired.app t s)
theorem Paired.rev {α β : Type} {R : α → β → Prop} : ∀ {l : List α} {m : List β}, PySem.Paired R l m → PySem.Paired R l.reverse m.reverse
  | _, _, .nil => .nil
  | _, _, .cons r t => by
    rw [List.reverse_cons, List.reverse_cons]
    exact Paired.app (Paired.rev t) (.cons r .nil)
theorem zip_paired {R : D → V → Prop} : ∀ {fl : List Str} {ds : List D} {vs : List V}, PySem.Paired R ds vs → fl.length = ds.length → PySem.Paired (fun (x : Str × D) (y : Str × V) => x.1 = y.1 ∧ R x.2 y.2) (fl.zip ds) (fl.zip vs)
  | [], _, _, _, _ => .nil
  | f :: fl, _, _, .cons r t, h => .cons ⟨rfl, r⟩ (zip_paired t (by simpa using h))
theorem Reps.pair {K : PySem.W.Frag} {mg : Str → Option Value} {H : Hp} {F : Addr → Prop} : ∀ {ds : List D} {vs : List V}, Reps K mg H F ds vs → PySem.Paired (Rep K mg H F) ds vs
  | _, _, .nil => .nil
  | _, _, .cons r t => .cons r (Reps.pair t)
theorem ExR.made {p : Pt} {cn : Str} {Ca d : Addr} {fl : List Str} {ds : List D} {vs : List V} (I : I3 C p) (hm : C.mg cn = some (.ref Ca)) (hd : p.H d = none) (r : RepsP C p ds vs) (el : fl.length = ds.length) :
    ExR C (p.wH (upd p.H d (.xd (fl.zip vs).reverse))) cn (fl.zip ds).reverse (.ref Ca) (some d) := by
  obtain ⟨f1, f2, f3⟩ := I.fresh_free hd
  exact ⟨Ca, d, _, rfl, hm, rfl, upd_same, f1, f2, f3, Paired.rev (zip_paired (Reps.pair (Reps.keep (I.laid hd).2.ks.kp r)) el)⟩
theorem s_rais (hX : XOk c X C cl co EX) {n : Str} {fl : List Str} {l : List Ex} {es : List Expr} {q pos pos2 : Pos} (hg : glB c n = true) (hcl : hasCl c n fl = true) (hne : es ≠ []) (h : chkL c l es = true) :
    PS X (.Raise (some (.Call (.Name n q) es [] pos)) none pos2) (liftS C EX (ws cl co (.rais n fl l))) := by
  obtain ⟨ci, hci, e1⟩ := List.any_eq_true.mp hcl
  simp only [Bool.and_eq_true, decide_eq_true_eq] at e1
  obtain ⟨rfl, rfl, e3⟩ := e1
  obtain ⟨Ca, ck⟩ := hX.cls.cl ci hci
  obtain ⟨fm, fI, fd, T, iC, tI, F1, hb, hl⟩ := ck.make e3
  obtain ⟨g, d1, d2⟩ := hX.gl hg
  have z := sL l hX h
  cases es with
  | nil => exact (hne rfl).elim
  | cons e es =>
    have hxp : Passes (L2.CX X.prog X.w) X (fun _ _ _ => False) := passes_call (W := fun _ _ _ _ => False) (fun u s' ⟨_, _, _, _, _, _, _, _, _, _, _, _, _, _, _, _, w⟩ => w.elim) fun _ _ _ _ h => h
    have mk := pmk_oeF (dvs := []) (ds := []) (p := q) (pos := pos) T iC tI F1 hX.rm hb .nil hxp g ck.here z.pa d1 (star_of (z.pl e List.mem_cons_self)) (stars_of fun e he => z.pl e (List.mem_cons_of_mem _ he))
    refine PS.imp (ps_raise hX.calm hX.tk mk) fun D σ H ⟨ev, hp, I, w⟩ => ?_
    simp only [ws] at w
    refine ⟨ev, hp, I, was_mono hX.cm l _ _ _ _ _ _ ?_ (fun _ _ _ z => z) w⟩
    rintro ds hp1 ⟨el, w⟩ vs H1 I1 k1 r1
    have lv : vs.length = ci.fl.length := by rw [← r1.length, el]
    refine ⟨by omega, fun a ha => ⟨a, vs, by simp, lv, upd_same, fun H2 d hd da g1 g2 g3 => ?_⟩⟩
    have hd1 : H1 d = none := by rw [upd_ne da] at hd; exact hd
    have eH : upd (del H2 a) d (.xd (ci.fl.zip vs).reverse) = upd H1 d (.xd (ci.fl.zip vs).reverse) := by
      funext b
      by_cases hbd : b = d
      · rw [hbd, upd_same, upd_same]
      · rw [upd_ne hbd, upd_ne hbd]
        by_cases hba : b = a
        · rw [hba, del_same, ha]
        · rw [del_ne hba, g3 b hba hbd, upd_ne hba]
    refine ⟨rfl, d, _, g1, g2, hd1, ?_⟩
    rw [eH]
    exact ⟨ev, hp1, ci.n, _, (I1.laid hd1).1, ExR.made (p := ⟨ev, σ, hp1, H1⟩) I1 (by rw [hX.mg]; exact ck.here) hd1 r1 el.symm, w⟩
end

/-! ### isinstance of a caught error, whatever its dict -/
section
variable {prog : Program} {w : World} {A : Around} {E : Value → Shared → Prop} {s : Shared} {K : PySem.W.Frag} {x D : Addr} {ox : Obj}
open PySem.W
theorem findObj_dataO {C : Addr} {od : Option Obj} {name : Str} {a g : Value} (hc : (clsIn K C).isSome = true) (ha : findIn K (.ref C) name = some (some a)) (hg : specialIn K a "__get__" = some (some g)) (ht : takesIn K a = some true) : findObj K C od name = some (.bind g a) := by
  obtain ⟨cd, hc⟩ := Option.isSome_iff_exists.mp hc
  unfold findObj
  rw [hc, Option.bind_some, ha, Option.bind_some]
  simp [hg, ht]
theorem kin_classO {od : Option Obj} {Q : Option Value → Shared → Prop} (hga : findIn K (.ref D) "__getattribute__" = some (some (.builtin "BaseException.__getattribute__"))) (hgt : findIn K (.ref D) "__getattr__" = some none) (hsub : subIn K (.ref D) (.type "BaseException") = some true)
    (hdct : hasDictIn K D = true) (ha : findIn K (.ref D) "__class__" = some (some (.builtin "object.__class__")))
    (hn : specialIn K (.builtin "object.__class__") "__get__" = some (some (.builtin "getset_descriptor.__get__"))) (htk : takesIn K (.builtin "object.__class__") = some true) (hm : mroIn K D (.type "object") = some true)
    (X : K.In s.heap) (I : InstAt s.heap x ox D od) (h : Q (some (.ref D)) { s with toks := s.toks + 1 }) : wpAny (model prog w) A (getAttr? (.ref x) "__class__") Q E s := by
  have hf : findObj K D od "__class__" = some (.bind (.builtin "getset_descriptor.__get__") (.builtin "object.__class__")) := findObj_dataO (by obtain ⟨cd, hc, _⟩ := any_some hdct; rw [hc]; rfl) ha hn htk
  obtain ⟨hp, g, d, t, os⟩ := s
  have L0 := I.type (M := model prog w)
  have L1 := looks_findIn (M := model prog w) X hga
  have L2 := looks_findIn (M := model prog w) X hgt
  have L3 := looks_find (M := model prog w) X I hf
  have sub : Looks (model prog w) hp (isInstance (.ref x) (.type "BaseException")) true := L0.andThen (looks_subIn X hsub)
  have hx0 : (false && onTheHeap (Value.builtin "BaseException.__getattribute__")) = false := rfl
  have hx2 : (Value.builtin "BaseException.__getattribute__" == Value.builtin "object.__getattribute__") = false := by decide +kernel
  have hx1 : (onTheHeap (Value.ref D) && Value.builtin "BaseException.__getattribute__" == Value.builtin "object.__getattribute__") = false := by rw [hx2]; rfl
  unfold getAttr? getAttrBy? getAttrBy
  refine wpAny_bind (wpAny_mkText (wpAny_bind (wpAny_attempt (wpAny_holding (wpAny_bind (L0.at (wpAny_bind (L1.at ?_))))))))
  show wpAny _ _ (if (onTheHeap (Value.ref D) && Value.builtin "BaseException.__getattribute__" == Value.builtin "object.__getattribute__") = true then _ else _) _ _ _
  rw [hx1, if_neg Bool.false_ne_true]
  unfold getAttrByItsOwn hookBefore
  refine wpAny_bind ?_
  rw [if_pos (show onTheHeap (Value.ref D) = true from rfl)]
  refine L2.at ?_
  refine wpAny_bind (wpAny_attempt (wpAny_holding ?_))
  unfold callGetattribute
  rw [hx0, if_neg Bool.false_ne_true]
  unfold boundAndCalled
  rw [PySem.F.excAttr_ValueError.ga.bind (.ref x)]
  refine wpAny_bind (wpAny_pure ?_)
  show wpAny _ _ (call (.builtin "BaseException.__getattribute__") [.ref x, .str "__class__" t]) _ _ _
  refine wpAny_call (codeAny_call_builtin PySem.F.excAttr_ValueError.ga.plain PySem.F.entry_bexc_ga ?_)
  refine @check_slot (model prog w) _ _ ⟨hp, g, d, t + 1, os⟩ "BaseException.__getattribute__" "BaseException" "__getattribute__" (.ref x) [.str "__class__" t] [] _ (by decide +kernel) (by decide +kernel) sub (PySem.F.args_bexc_ga (.ref x) (.str "__class__" t)) ?_
  unfold Builtin.«object.__getattribute__»
  refine wpAny_bind (wpAny_of_eq (a := ((Value.ref x : Value), [Value.str "__class__" t])) (by first | rfl | (simp only [slotArgs]; rfl)) ?_)
  refine wpAny_bind (wpAny_pure (wpAny_bind (L0.at (wpAny_bind (L3.at ?_)))))
  show wpAny _ _ (holding [Value.builtin "object.__class__"] (call (.builtin "getset_descriptor.__get__") [.builtin "object.__class__", .ref x, .ref D]) >>= ret) _ _ _
  refine wpAny_bind (wpAny_holding (wpAny_call (class_get (s := ⟨hp, g, d, t + 1, os⟩) (ox := ox) (od := od) X I hm ?_)))
  refine wpAny_pure ?_
  show wpAny _ _ (handedOut (.ref D)) _ _ _
  rw [handedOut_of (v := .ref D) rfl]
  first
    | exact wpAny_pure (wpAny_pure h)
    | exact wpAny_pure h
    | exact wpAny_pure (wpAny_bind (wpAny_pure (wpAny_pure h)))
theorem kitx_excO (hga : findIn K (.ref D) "__getattribute__" = some (some (.builtin "BaseException.__getattribute__"))) (hgt : findIn K (.ref D) "__getattr__" = some none) (hsub : subIn K (.ref D) (.type "BaseException") = some true) (hdct : hasDictIn K D = true) (ha : findIn K (.ref D) "__class__" = some (some (.builtin "object.__class__")))
    (hn : specialIn K (.builtin "object.__class__") "__get__" = some (some (.builtin "getset_descriptor.__get__"))) (htk : takesIn K (.builtin "object.__class__") = some true) (hm : mroIn K D (.type "object") = some true) :
    KitX K (.ref x) (.ref D) (fun h => ∃ od, InstAt h x ox D od) where
  ty := fun _ _ _ ⟨_, I⟩ => I.type
  it := fun _ _ X _ => by
    obtain ⟨cdD, hcD, _⟩ := any_some hdct
    unfold clsIn at hcD
    split at hcD
    · rename_i c' d' cd' sl' ho
      intro A' Q' E' s' k q
      unfold isType loadHead
      exact wpAny_bind (wpAny_loadPart (k _ _ (X _ _ ho)) (wpAny_pure q))
    · cases hcD
  ne := fun h tp dd its n sl X htp => by
    obtain ⟨cdD, hcD, _⟩ := any_some hdct
    refine Bool.eq_false_iff.mpr fun q => ?_
    have e : D = tp := Value.ref.inj (beq_iff_eq.mp q)
    subst e
    unfold clsIn at hcD
    split at hcD
    · rename_i c' d' cd' sl' ho
      have z := (X _ _ ho).symm.trans htp
      cases z
    · cases hcD
  ca := fun X ⟨_, I⟩ k => kin_classO hga hgt hsub hdct ha hn htk hm X I k
end
/-- isinstance(e, c) and isinstance(e, (c1, c2, ..)), e the error that the suite holds; its dict stands -/
def rIsX (K : PySem.W.Frag) (D a : Addr) (d : Option Addr) : List V → Hp → VK → Prop := fun xs H Q => (∃ dd fs, d = some dd ∧ H dd = some (.xd fs)) ∧ ((∃ (c : V) (u : Value) (b : Bool), xs = [.ref a, c] ∧ ClsV c u ∧ PySem.W.kitOne K (.ref D) u = some b ∧ Q (.bl b) H) ∨
  ∃ (tp : Addr) (cs : List V) (us : List Value) (b : Bool), xs = [.ref a, .ref tp] ∧ H tp = some (.tup cs) ∧ PySem.Paired ClsV cs us ∧ PySem.W.kitAny K (.ref D) us = some b ∧ Q (.bl b) H)
theorem call_isX {X : Cx} {a D : Addr} {oe : Obj} {d : Option Addr} {pn : List (Addr × Obj)} (C : ExcC X.K D) (hz : Zc (.ref D) d oe) (hf : ∃ vs, oe.data = .fields vs) : CallR (X.suite a ((a, oe) :: pn)) (.builtin "isinstance") (rIsX X.K D a d) := by
  intro pins s σ H xs us Q I r h
  obtain ⟨⟨dd, fs, ed, ex⟩, h⟩ := h
  subst ed
  obtain ⟨hget, _⟩ := I.pin (a, oe) (List.mem_append.mpr (.inl List.mem_cons_self))
  obtain ⟨vs, hv⟩ := hf
  have J : ∃ od, PySem.W.InstAt s.heap a oe D od := by
    have hx : ObjOk X.prog X.w H s.heap dd (.xd fs) := I.hok dd _ ex
    obtain ⟨mA, hns, hr⟩ := hx
    obtain ⟨od, ho, hl⟩ := lookIn_ns hns
    exact ⟨some od, hget, hz.1, by unfold PySem.W.notCls; rw [hv] <;> rfl, by rw [hz.2]; exact ho⟩
  have Z : PySem.W.KitX X.K (.ref a) (.ref D) (fun h => ∃ od, PySem.W.InstAt h a oe D od) := kitx_excO C.hg C.hk C.hs C.hd C.ha C.hn C.ht C.hm
  rcases h with ⟨c, u, b, rfl, k, e, q⟩ | ⟨tp, cs, ws, b, rfl, hT, k, e, q⟩
  · obtain ⟨u1, u2, rfl, r1, r2⟩ := vals2 r
    cases (show u1 = Value.ref a from r1)
    have e2 := k.eq r2
    subst e2
    exact PySem.W.kia_one Z I.kIn J e (fun z => nomatch z) fun tk => ⟨.bl b, H, I.tok tk, rfl, q⟩
  · obtain ⟨u1, u2, rfl, r1, r2⟩ := vals2 r
    cases (show u1 = Value.ref a from r1)
    cases (show u2 = Value.ref tp from r2)
    obtain ⟨_, its, rv, o, h1, h2, n, h3⟩ := (show ObjOk X.prog X.w H s.heap tp (.tup cs) from I.hok tp _ hT)
    have e3 := ClsV.all k rv
    subst e3
    obtain ⟨oc, od, dt, sl⟩ := o
    simp only at h2 h3
    subst h2 h3
    exact PySem.W.kia_tup Z I.kIn J h1 e (fun z => nomatch z) fun tk => ⟨.bl b, H, I.tok tk, rfl, q⟩
end Mi

set_option maxHeartbeats 2000000
namespace Mi
open PySem PySem.Spec PyProof.Rows L2

/-! ### expressions of an except suite -/
def SlotAt (slot : Option Nat) (a : Addr) (p : Pt) : Prop := ∀ i, slot = some i → p.st[i]? = some (some (.ref a)) ∧ ∀ l, p.ev[i]? ≠ some (some (.ol l))
/-- where the suite stands: the error at a, of the class cn, its fields -/
structure LAt (c : Ctx) (C : BC) (slot : Option Nat) (a : Addr) (cls : Value) (d : Option Addr) (p : Pt) (cn : Str) (fs : List (Str × D)) : Prop where
  I : I3 C p
  er : ExR C p cn fs cls d
  sl : SlotAt slot a p
  ci : ∃ ci, c.ct.find? (fun ci => decide (ci.n = cn)) = some ci
theorem ExR.ke {C : BC} {p p' : Pt} (k : KE p p') {cn : Str} {fs : List (Str × D)} {cls : Value} {d : Option Addr} (h : ExR C p cn fs cls d) : ExR C p' cn fs cls d := by
  obtain ⟨a, dx, vs, e1, e2, e3, e4, e5, e6, e7, e8⟩ := h
  refine ⟨a, dx, vs, e1, e2, e3, (k.3 _ _ e4 e5).1, (k.3 _ _ e4 e5).2, fun z => e6 ((k.own _).mp z), e7, ?_⟩
  clear e4
  induction e8 with
  | nil => exact .nil
  | cons r t ih => exact .cons ⟨r.1, RepP.ke k r.2⟩ ih
theorem LAt.ke {c : Ctx} {C : BC} {slot : Option Nat} {a : Addr} {cls : Value} {d : Option Addr} {p p' : Pt} {cn : Str} {fs : List (Str × D)} (h : LAt c C slot a cls d p cn fs) (k : KE p p') (I : I3 C p') : LAt c C slot a cls d p' cn fs :=
  ⟨I, h.er.ke k, fun i e => by rw [k.2, k.1]; exact h.sl i e, h.ci⟩
/-- a value comes, the heap may have grown -/
abbrev outX (C : BC) (p : Pt) (x : D) (Q : VK) : Prop := ∀ v H', I3 C (p.wH H') → KE p (p.wH H') → RepP C (p.wH H') x v → Q v H'
def liftX (c : Ctx) (C : BC) (slot : Option Nat) (a : Addr) (cls : Value) (d : Option Addr) (e : Xp) : TE := fun σ H Q => ∃ ev hp cn fs, LAt c C slot a cls d ⟨ev, σ, hp, H⟩ cn fs ∧ ∃ x, xv ev cn fs e = some x ∧ outX C ⟨ev, σ, hp, H⟩ x Q
def liftXT (c : Ctx) (C : BC) (slot : Option Nat) (a : Addr) (cls : Value) (d : Option Addr) (e : Xp) : TT := fun σ H Q => ∃ ev hp cn fs, LAt c C slot a cls d ⟨ev, σ, hp, H⟩ cn fs ∧ ∃ b, xv ev cn fs e = some (.bl b) ∧ ∀ H', I3 C ⟨ev, σ, hp, H'⟩ → KE ⟨ev, σ, hp, H⟩ ⟨ev, σ, hp, H'⟩ → Q b H'
def liftXA (c : Ctx) (C : BC) (slot : Option Nat) (a : Addr) (cls : Value) (d : Option Addr) (l : List Xp) : TA := fun σ H Q => ∃ ev hp cn fs, LAt c C slot a cls d ⟨ev, σ, hp, H⟩ cn fs ∧ ∃ xs, xvs ev cn fs l = some xs ∧ ∀ vs H', I3 C ⟨ev, σ, hp, H'⟩ → KE ⟨ev, σ, hp, H⟩ ⟨ev, σ, hp, H'⟩ → RepsP C ⟨ev, σ, hp, H'⟩ xs vs → Q vs H'
structure SX (c : Ctx) (X : Cx) (C : BC) (slot : Option Nat) (a : Addr) (cls : Value) (d : Option Addr) (m : Xp) (e : Expr) : Prop where
  pe : PE X e (liftX c C slot a cls d m)
  pt : PT X e (liftXT c C slot a cls d m)
  pw : isBop e = true → PW X e (liftXT c C slot a cls d m)
section
variable {c : Ctx} {X : Cx} {C : BC} {slot : Option Nat} {a : Addr} {cls : Value} {d : Option Addr}
theorem xx_pl {m : Xp} {e : Expr} (pe : PE X e (liftX c C slot a cls d m)) (he : ∀ whole, isTrue e X.env whole = (do let v ← whole; standAt e.pos; holding [v] (truthy v))) (hb : isBop e = false) : SX c X C slot a cls d m e :=
  ⟨pe, PT.imp (pt_val pe he) fun σ H Q ⟨ev, hp, cn, fs, L, b, e1, q⟩ => ⟨ev, hp, cn, fs, L, .bl b, e1, fun v H' I k r => by
    have hv : v = .bl b := by cases r; rfl
    exact ⟨b, hv, q H' I k⟩⟩, fun z => by rw [hb] at z; cases z⟩
theorem xx_con {m : Xp} {e : Expr} {x : D} {v : V} (h : PE X e (tC v)) (hm : ∀ ev cn fs, xv ev cn fs m = some x) (r : ∀ p, RepP C p x v) (he : ∀ whole, isTrue e X.env whole = (do let v ← whole; standAt e.pos; holding [v] (truthy v))) (hb : isBop e = false) : SX c X C slot a cls d m e :=
  xx_pl (PE.imp h fun σ H Q ⟨ev, hp, cn, fs, L, y, e1, q⟩ => by
    rw [hm] at e1; cases e1
    exact q v H L.I (KE.refl _) (r _)) he hb
theorem xx_no {m : Xp} {x : Expr} {pos : Pos} (h : SX c X C slot a cls d m x) : SX c X C slot a cls d (.no m) (.UnaryOp .Not x pos) where
  pe := PE.imp (pe_not h.pe) fun σ H Q ⟨ev, hp, cn, fs, L, y, e1, q⟩ => by
    simp only [xv] at e1
    split at e1
    · rename_i b eb
      cases e1
      exact ⟨ev, hp, cn, fs, L, _, eb, fun v H' I k r => by
        have hv : v = .bl b := by cases r; rfl
        exact ⟨b, hv, q _ H' I k (.bl _)⟩⟩
    · cases e1
  pt := PT.imp (pt_not h.pt) fun σ H Q ⟨ev, hp, cn, fs, L, b, e1, q⟩ => by
    simp only [xv] at e1
    split at e1
    · rename_i b' eb
      cases e1
      exact ⟨ev, hp, cn, fs, L, _, eb, fun H' I k => q H' I k⟩
    · cases e1
  pw := fun z => nomatch z
theorem xx_an {m n : Xp} {x y : Expr} {r : List Expr} {pos : Pos} (ha : SX c X C slot a cls d m x) (hb : PE X (.BoolOp .And (y :: r) pos) (liftX c C slot a cls d n)) (hw : PW X (.BoolOp .And (y :: r) pos) (liftXT c C slot a cls d n)) :
    SX c X C slot a cls d (.an m n) (.BoolOp .And (x :: y :: r) pos) := by
  have pw : PW X (.BoolOp .And (x :: y :: r) pos) (liftXT c C slot a cls d (.an m n)) := by
    refine ⟨fun wh pins s σ H Q I h => (pw_and ha.pt hw).run wh pins s σ H Q I ?_⟩
    obtain ⟨ev, hp, cn, fs, L, b, e1, q⟩ := h
    simp only [xv] at e1
    split at e1
    · rename_i em
      split at e1
      · rename_i b' en
        cases e1
        refine ⟨ev, hp, cn, fs, L, true, em, fun H1 I1 k1 => ?_⟩
        exact ⟨ev, hp, cn, fs, L.ke k1 I1, _, en, fun H2 I2 k2 => q H2 I2 (k1.trans k2)⟩
      · cases e1
    · rename_i em
      cases e1
      refine ⟨ev, hp, cn, fs, L, false, em, fun H1 I1 k1 => ?_⟩
      exact q H1 I1 k1
    · cases e1
  refine ⟨PE.imp (pe_and ha.pe hb) fun σ H Q ⟨ev, hp, cn, fs, L, z, e1, q⟩ => ?_, pw.pt, fun _ => pw⟩
  simp only [xv] at e1
  split at e1
  · rename_i em
    split at e1
    · rename_i b' en
      cases e1
      refine ⟨ev, hp, cn, fs, L, _, em, fun v H1 I1 k1 r1 => ⟨true, by cases r1; rfl, ?_⟩⟩
      rw [if_pos rfl]
      exact ⟨ev, hp, cn, fs, L.ke k1 I1, _, en, fun v H2 I2 k2 r2 => q v H2 I2 (k1.trans k2) r2⟩
    · cases e1
  · rename_i em
    cases e1
    refine ⟨ev, hp, cn, fs, L, _, em, fun v H1 I1 k1 r1 => ⟨false, by cases r1; rfl, ?_⟩⟩
    rw [if_neg Bool.false_ne_true]
    exact q _ H1 I1 k1 (.bl _)
  · cases e1
theorem xx_oo {m n : Xp} {x y : Expr} {r : List Expr} {pos : Pos} (ha : SX c X C slot a cls d m x) (hb : PE X (.BoolOp .Or (y :: r) pos) (liftX c C slot a cls d n)) (hw : PW X (.BoolOp .Or (y :: r) pos) (liftXT c C slot a cls d n)) :
    SX c X C slot a cls d (.oo m n) (.BoolOp .Or (x :: y :: r) pos) := by
  have pw : PW X (.BoolOp .Or (x :: y :: r) pos) (liftXT c C slot a cls d (.oo m n)) := by
    refine ⟨fun wh pins s σ H Q I h => (pw_or ha.pt hw).run wh pins s σ H Q I ?_⟩
    obtain ⟨ev, hp, cn, fs, L, b, e1, q⟩ := h
    simp only [xv] at e1
    split at e1
    · rename_i em
      split at e1
      · rename_i b' en
        cases e1
        refine ⟨ev, hp, cn, fs, L, false, em, fun H1 I1 k1 => ?_⟩
        exact ⟨ev, hp, cn, fs, L.ke k1 I1, _, en, fun H2 I2 k2 => q H2 I2 (k1.trans k2)⟩
      · cases e1
    · rename_i em
      cases e1
      refine ⟨ev, hp, cn, fs, L, true, em, fun H1 I1 k1 => ?_⟩
      exact q H1 I1 k1
    · cases e1
  refine ⟨PE.imp (pe_or ha.pe hb) fun σ H Q ⟨ev, hp, cn, fs, L, z, e1, q⟩ => ?_, pw.pt, fun _ => pw⟩
  simp only [xv] at e1
  split at e1
  · rename_i em
    split at e1
    · rename_i b' en
      cases e1
      refine ⟨ev, hp, cn, fs, L, _, em, fun v H1 I1 k1 r1 => ⟨false, by cases r1; rfl, ?_⟩⟩
      rw [if_neg Bool.false_ne_true]
      exact ⟨ev, hp, cn, fs, L.ke k1 I1, _, en, fun v H2 I2 k2 r2 => q v H2 I2 (k1.trans k2) r2⟩
    · cases e1
  · rename_i em
    cases e1
    refine ⟨ev, hp, cn, fs, L, _, em, fun v H1 I1 k1 r1 => ⟨true, by cases r1; rfl, ?_⟩⟩
    rw [if_pos rfl]
    exact q _ H1 I1 k1 (.bl _)
  · cases e1
theorem xa_nil : PA X [] (liftXA c C slot a cls d []) := PA.imp pa_nil fun σ H Q ⟨ev, hp, cn, fs, L, xs, e1, q⟩ => by
  simp only [xvs] at e1
  cases e1
  exact q [] H L.I (KE.refl _) .nil
theorem xa_cons {m : Xp} {l : List Xp} {e : Expr} {es : List Expr} (pl : plainE e = true) (h : SX c X C slot a cls d m e) (t : PA X es (liftXA c C slot a cls d l)) : PA X (e :: es) (liftXA c C slot a cls d (m :: l)) :=
  PA.imp (pa_cons h.pe t (star_of pl)) fun σ H Q ⟨ev, hp, cn, fs, L, xs, e1, q⟩ => by
    simp only [xvs] at e1
    split at e1
    · rename_i x l' ex el
      cases e1
      exact ⟨ev, hp, cn, fs, L, x, ex, fun v H1 I1 k1 r1 => ⟨ev, hp, cn, fs, L.ke k1 I1, l', el, fun vs H2 I2 k2 r2 => q (v :: vs) H2 I2 (k1.trans k2) (.cons (RepP.ke k2 r1) r2)⟩⟩
    · cases e1
theorem xvs_len {ev : Ev} {cn : Str} {fs : List (Str × D)} : ∀ {l : List Xp} {xs : List D}, xvs ev cn fs l = some xs → xs.length = l.length
  | [], xs, h => by simp only [xvs] at h; cases h; rfl
  | m :: l, xs, h => by
    simp only [xvs] at h
    split at h
    · rename_i x l' ex el
      cases h
      simp [xvs_len el]
    · cases h
theorem xx_tup {l : List Xp} {es : List Expr} {k : Nat} {pos : Pos} (hl : l.length ≤ 1000) (h : PA X es (liftXA c C slot a cls d l)) : SX c X C slot a cls d (.tup l) (.Tuple es k pos) :=
  xx_pl (PE.imp (pe_tup h) fun σ H Q ⟨ev, hp, cn, fs, L, y, e1, q⟩ => by
    simp only [xv] at e1
    obtain ⟨xs, ex, rfl⟩ := Option.map_eq_some_iff.mp e1
    refine ⟨ev, hp, cn, fs, L, xs, ex, fun vs H1 I1 k1 r1 => ⟨?_, fun t ht => ?_⟩⟩
    · rw [← r1.length, xvs_len ex]
      exact Nat.le_trans hl (by decide)
    · obtain ⟨I2, k2⟩ := I3.laid (p := ⟨ev, σ, hp, H1⟩) I1 (o := .tup vs) ht
      exact q _ _ I2 (k1.trans k2) (I3.newT (p := ⟨ev, σ, hp, H1⟩) I1 ht r1)) (fun _ => rfl) rfl
end
end Mi

set_option maxHeartbeats 2000000
namespace Mi
open PySem PySem.Spec PyProof.Rows L2
section
variable {c : Ctx} {X : Cx} {C : BC} {cl : CallT} {co : ConT} {EX : Ev → EK}
/-- what a suite's context has of its def's -/
structure UOk (c : Ctx) (X : Cx) (C : BC) (a : Addr) (oe : Obj) (pn : List (Addr × Obj)) (cls : Value) (d : Option Addr) : Prop where
  N : X.N = c.N
  nd : X.N.Nodup
  sc : X.env.scope = c.sc
  K : C.K = X.K
  mg : C.mg = X.mg
  bi : ∀ x ∈ c.bi, X.mg x = none
  clo : ClOk X.prog X.w X.K X.mg X.base c.ct
  fnc : c.top = true → ∀ x, X.fn x = true
  z : Zc cls d oe
  f : ∃ vs, oe.data = .fields vs
theorem XOk.u (hX : XOk c X C cl co EX) {a : Addr} {oe : Obj} {pn : List (Addr × Obj)} {cls : Value} {d : Option Addr} (hz : Zc cls d oe) (hf : ∃ vs, oe.data = .fields vs) : UOk c X C a oe pn cls d :=
  ⟨hX.N, hX.nd, hX.sc, hX.K, hX.mg, hX.bi, hX.cls, hX.fnc, hz, hf⟩
variable {slot : Option Nat} {a : Addr} {oe : Obj} {pn : List (Addr × Obj)} {cls : Value} {d : Option Addr}
theorem UOk.gl (hU : UOk c X C a oe pn cls d) {x : Str} (h : glB c x = true) : Gl (X.suite a ((a, oe) :: pn)) x ∧ (x == ("__debug__" : Str)) = false ∧ x ≠ "__name__" := by
  unfold glB at h
  simp only [Bool.and_eq_true, decide_eq_true_eq, Bool.not_eq_true'] at h
  refine ⟨?_, h.1.2, fun e => ?_⟩
  · show X.env.scope.names.lookup x = _
    rw [hU.sc]; exact h.1.1
  · have q := h.2
    rw [e] at q
    simp at q
theorem UOk.blt (hU : UOk c X C a oe pn cls d) {x : Str} (h : biB c x = true) : Gl (X.suite a ((a, oe) :: pn)) x ∧ X.mg x = none ∧ (x == ("__debug__" : Str)) = false ∧ x ≠ "__name__" := by
  unfold biB at h
  simp only [Bool.and_eq_true, decide_eq_true_eq] at h
  obtain ⟨h1, h2, h3⟩ := hU.gl h.1
  exact ⟨h1, hU.bi x h.2, h2, h3⟩
theorem UOk.vis (hU : UOk c X C a oe pn cls d) {x : Str} (h : visB c x = true) : Vis (X.suite a ((a, oe) :: pn)).env.scope x ∧ (x == ("__debug__" : Str)) = false ∧ (x == ("__classdict__" : Str)) = false := by
  unfold visB at h
  simp only [Bool.and_eq_true, Bool.not_eq_true'] at h
  refine ⟨?_, h.1.2, h.2⟩
  show Vis X.env.scope x
  rw [hU.sc]
  have h1 := h.1.1
  split at h1
  · exact .inl ‹_›
  · exact .inr (.inl ‹_›)
  · exact .inr (.inr ‹_›)
  · cases h1
/-- the error's own name -/
theorem xx_self (hU : UOk c X C a oe pn cls d) {i : Nat} {e : Expr} (h : selfB c slot i e = true) : PE (X.suite a ((a, oe) :: pn)) e (tVar i) ∧ slot = some i := by
  unfold selfB at h
  split at h
  · simp only [Bool.and_eq_true, decide_eq_true_eq] at h
    obtain ⟨⟨⟨h1, h2⟩, h3⟩, h4⟩ := h
    obtain ⟨v1, v2, v3⟩ := hU.vis h4
    exact ⟨pe_var (i := i) (by show X.N[i]? = _; rw [hU.N]; exact h2) v1 v2 v3, h1⟩
  · cases h
/-- the class that the error is of -/
theorem LAt.kl (hU : UOk c X C a oe pn cls d) {p : Pt} {cn : Str} {fs : List (Str × D)} (L : LAt c C slot a cls d p cn fs) : ∃ ci Ca, c.ct.find? (fun ci => decide (ci.n = cn)) = some ci ∧ ci ∈ c.ct ∧ ci.n = cn ∧ ClK X.prog X.w X.K X.mg X.base Ca ci ∧ cls = .ref Ca ∧ ∃ dd vs, d = some dd ∧ p.H dd = some (.xd vs) ∧ PySem.Paired (fun (x : Str × D) (y : Str × V) => x.1 = y.1 ∧ RepP C p x.2 y.2) fs vs := by
  obtain ⟨ci, hci⟩ := L.ci
  have hm := List.mem_of_find?_eq_some hci
  have hn : ci.n = cn := by simpa using List.find?_some hci
  obtain ⟨Ca, ck⟩ := hU.clo.cl ci hm
  obtain ⟨a', dx, vs, e1, e2, e3, e4, e5, e6, e7, e8⟩ := L.er
  have : a' = Ca := by
    have := ck.here
    rw [hn, ← hU.mg, e2] at this
    cases this; rfl
  subst this
  exact ⟨ci, a', hci, hm, hn, ck, e1, dx, vs, e3, e4, e8⟩
theorem lookup_pair {R : D → V → Prop} : ∀ {fs : List (Str × D)} {vs : List (Str × V)} {f : Str} {x : D}, PySem.Paired (fun (x : Str × D) (y : Str × V) => x.1 = y.1 ∧ R x.2 y.2) fs vs → fs.lookup f = some x → ∃ v, vs.lookup f = some v ∧ R x v
  | _, _, _, _, .nil, h => by cases h
  | (g, y) :: fs, (g', w) :: vs, f, x, .cons r t, h => by
    obtain ⟨rfl, r2⟩ := r
    rw [List.lookup_cons] at h ⊢
    by_cases e : (f == g) = true
    · simp only [e] at h ⊢
      cases h
      exact ⟨w, rfl, r2⟩
    · simp only [Bool.not_eq_true] at e
      simp only [e] at h ⊢
      exact lookup_pair t h
theorem xx_fld (hU : UOk c X C a oe pn cls d) {i : Nat} {f : Str} {e : Expr} {pos : Pos} (h : selfB c slot i e = true) (hf : c.ct.any (fun cj => decide (f ∈ cj.fl)) = true) : SX c (X.suite a ((a, oe) :: pn)) C slot a cls d (.fld i f) (.Attribute e f pos) := by
  obtain ⟨pe, hs⟩ := xx_self (pn := pn) hU h
  have hb : attributeBase e f X.env (eval e X.env) = eval e X.env := by
    unfold selfB at h
    split at h
    · rfl
    · cases h
  obtain ⟨cj, hcj, ef⟩ := List.any_eq_true.mp hf
  have ef := of_decide_eq_true ef
  have all : ∀ Ca : Addr, (XfC X.K Ca ∧ PySem.W.findIn X.K (.ref Ca) f = some none) → PE (X.suite a ((a, oe) :: pn)) (.Attribute e f pos) (tXf a cls d Ca f (tVar i)) := fun Ca h => pe_xf h.1 h.2 hU.z hU.f pe hb
  refine xx_pl (PE.imp (PE.any all) fun σ H Q ⟨ev, hp, cn, fs, L, y, e1, q⟩ => ?_) (fun _ => rfl) rfl
  obtain ⟨ci, Ca, g1, g2, g3, ck, g5, dd, vs, g6, g7, g8⟩ := L.kl hU
  simp only [xv] at e1
  obtain ⟨v, e2, r2⟩ := lookup_pair g8 e1
  exact ⟨Ca, ⟨ck.xf, hU.clo.nof ci g2 cj hcj f ef Ca ck.here⟩, .ref a, (L.sl i hs).1, rfl, g5, dd, vs, v, g6, g7, e2, q v H L.I (KE.refl _) r2⟩
theorem name1 (hU : UOk c X C a oe pn cls d) {n : Str} (h2 : clB c n = true) : ∃ (v : V) (u : Value), ClsV v u ∧ (∀ p, PE (X.suite a ((a, oe) :: pn)) (.Name n p) (tC v)) ∧ ∀ ci ∈ c.ct, ∀ Ci, X.mg ci.n = some (.ref Ci) → PySem.W.kitOne X.K (.ref Ci) u = some (decide (n ∈ ci.sup)) := by
  unfold clB at h2
  rcases (Bool.or_eq_true _ _ ▸ h2 : _ ∨ _) with h2 | h2
  · obtain ⟨h4, h5⟩ := (Bool.and_eq_true _ _ ▸ h2 : _ ∧ _)
    obtain ⟨cj, hcj, ej⟩ := List.any_eq_true.mp h5
    obtain rfl := of_decide_eq_true ej
    obtain ⟨Cj, ckj⟩ := hU.clo.cl cj hcj
    obtain ⟨g, d1, d2⟩ := hU.gl (a := a) (oe := oe) (pn := pn) h4
    exact ⟨.ref Cj, .ref Cj, .own Cj, fun p => pe_glob g ckj.here rfl d1, fun ci hci Ci hm => (hU.clo.sub ci hci cj hcj Ci Cj hm ckj.here).2⟩
  · obtain ⟨h4, h5⟩ := (Bool.and_eq_true _ _ ▸ h2 : _ ∧ _)
    have h5 := of_decide_eq_true h5
    obtain ⟨g, m, d1, d2⟩ := hU.blt (a := a) (oe := oe) (pn := pn) h4
    have tb : ∃ b : String, bootBuiltins n = some (.type b) := by
      simp only [tyNs, List.mem_cons, List.not_mem_nil, or_false] at h5
      rcases h5 with rfl | rfl | rfl
      · exact ⟨"ValueError", by decide +kernel⟩
      · exact ⟨"LookupError", by decide +kernel⟩
      · exact ⟨"Exception", by decide +kernel⟩
    obtain ⟨b, hb⟩ := tb
    refine ⟨.ty b, .type b, .ty b, fun p => pe_bltn g m hb rfl d2 d1, fun ci hci Ci hm => ?_⟩
    obtain ⟨b', e1, e2⟩ := hU.clo.ty ci hci Ci hm n h5
    rw [hb] at e1; cases e1
    exact e2
/-- classes by their names -/
theorem names_pa (hU : UOk c X C a oe pn cls d) : ∀ {ns : List Str} {es : List Expr}, namesB c ns es = true → ∃ (cs : List V) (us : List Value), cs.length = ns.length ∧ PySem.Paired ClsV cs us ∧ PA (X.suite a ((a, oe) :: pn)) es (fun σ H Q => Q cs H) ∧ (∀ e ∈ es, plainE e = true) ∧ es.length = ns.length ∧
    ∀ ci ∈ c.ct, ∀ Ci, X.mg ci.n = some (.ref Ci) → PySem.W.kitAny X.K (.ref Ci) us = some (ns.any fun x => decide (x ∈ ci.sup))
  | [], es, h => by
    unfold namesB at h
    split at h
    · exact ⟨[], [], rfl, .nil, PA.imp pa_nil fun σ H Q q => q, (fun e he => nomatch he), rfl, fun _ _ _ _ => kitAny_nil⟩
    · cases h
  | n :: ns, es, h => by
    unfold namesB at h
    split at h
    · rename_i x p es
      simp only [Bool.and_eq_true, decide_eq_true_eq] at h
      obtain ⟨⟨rfl, h2⟩, h3⟩ := h
      obtain ⟨cs, us, l1, k1, pa1, p1, l2, q1⟩ := names_pa hU h3
      obtain ⟨v, u, kv, pv, qv⟩ := name1 (pn := pn) hU h2
      refine ⟨v :: cs, u :: us, by simp [l1], .cons kv k1, PA.imp (pa_cons (pv p) pa1 rfl) fun σ H Q q => q, fun e he => ?_, by simp [l2], fun ci hci Ci hm => ?_⟩
      · rcases List.mem_cons.mp he with rfl | he
        · rfl
        · exact p1 e he
      · refine kitAny_cons (qv ci hci Ci hm) (fun hb => ?_) fun hb => by rw [List.any_cons, hb]; rfl
        rw [List.any_cons, hb, Bool.false_or]
        exact q1 ci hci Ci hm
    · cases h
theorem subB_of {ct : List ClsI} {ci : ClsI} {y x : Str} {b : Bool} (h : ct.find? (fun ci => decide (ci.n = y)) = some ci) (e : subB ct y x = some b) : decide (x ∈ ci.sup) = b := by
  unfold subB at e
  rw [h] at e
  simpa using e
theorem xx_isx (hU : UOk c X C a oe pn cls d) {i : Nat} {ns yes no : List Str} {g : Str} {x t : Expr} {p pos : Pos} (h : chkX c slot (.isx i ns yes no) (.Call (.Name g p) [x, t] [] pos) = true) : SX c (X.suite a ((a, oe) :: pn)) C slot a cls d (.isx i ns yes no) (.Call (.Name g p) [x, t] [] pos) := by
  simp only [chkX, Bool.and_eq_true, decide_eq_true_eq] at h
  obtain ⟨⟨⟨⟨rfl, h2⟩, h3⟩, h4⟩, h5⟩ := h
  obtain ⟨pe, hs⟩ := xx_self (pn := pn) hU h3
  obtain ⟨gl, m, d1, d2⟩ := hU.blt (a := a) (oe := oe) (pn := pn) h2
  have px : plainE x = true := by
    unfold selfB at h3
    split at h3
    · rfl
    · cases h3
  -- what comes out
  have out : ∀ (ci : ClsI) (cn : Str) (ev : Ev) (fs : List (Str × D)) (y : D), c.ct.find? (fun ci => decide (ci.n = cn)) = some ci → xv ev cn fs (.isx i ns yes no) = some y → y = .bl (ns.any fun x => decide (x ∈ ci.sup)) := fun ci cn ev fs y hc e1 => by
    unfold isxB at h4
    simp only [Bool.and_eq_true] at h4
    simp only [xv] at e1
    split at e1
    · rename_i hy
      cases e1
      obtain ⟨z, hz, ez⟩ := List.any_eq_true.mp (List.all_eq_true.mp h4.1 cn hy)
      have : (ns.any fun x => decide (x ∈ ci.sup)) = true := List.any_eq_true.mpr ⟨z, hz, subB_of hc (of_decide_eq_true ez)⟩
      rw [this]
    · split at e1
      · rename_i hn
        cases e1
        have : (ns.any fun x => decide (x ∈ ci.sup)) = false := by
          rw [List.any_eq_false]
          intro z hz
          have ez := List.all_eq_true.mp (List.all_eq_true.mp h4.2 cn hn) z hz
          rw [subB_of hc (of_decide_eq_true ez)]
          exact Bool.false_ne_true
        rw [this]
      · cases e1
  have fin : ∀ {te : TE} (pt : plainE t = true), PE (X.suite a ((a, oe) :: pn)) t te → (∀ (ci : ClsI) (Ca : Addr) (dd : Addr) (vs : List (Str × V)) (σ : L2.St) (H : Hp) (Q : VK), ci ∈ c.ct → X.mg ci.n = some (.ref Ca) → d = some dd → H dd = some (.xd vs) →
      (∀ H', (H' = H ∨ ∃ tp o, H tp = none ∧ H' = upd H tp o) → Q (.bl (ns.any fun x => decide (x ∈ ci.sup))) H') → te σ H fun v H1 => rIsX X.K Ca a d [.ref a, v] H1 Q) → SX c (X.suite a ((a, oe) :: pn)) C slot a cls d (.isx i ns yes no) (.Call (.Name "isinstance" p) [x, t] [] pos) := fun {te} pt hpe hte => by
    have all : ∀ Ca : Addr, (ExcC X.K Ca ∧ cls = .ref Ca) → PE (X.suite a ((a, oe) :: pn)) (.Call (.Name "isinstance" p) [x, t] [] pos) (tCB (rIsX X.K Ca a d) (tCons (tVar i) (tCons te tNil))) := fun Ca hc => by
      obtain ⟨hc, rfl⟩ := hc
      exact pe_callB (call_isX hc hU.z hU.f) gl m (by decide +kernel) (pa_cons pe (pa_cons hpe pa_nil (star_of pt)) (star_of px)) d2 d1 (star_of px) (by rw [star_of pt]; rfl)
    refine xx_pl (PE.imp (PE.any all) fun σ H Q ⟨ev, hp, cn, fs, L, y, e1, q⟩ => ?_) (fun _ => rfl) rfl
    obtain ⟨ci, Ca, g1, g2, g3, ck, g5, dd, vs, g6, g7, g8⟩ := L.kl hU
    have ey := out ci cn ev fs y g1 e1
    subst ey
    refine ⟨Ca, ⟨ck.ex, g5⟩, .ref a, (L.sl i hs).1, hte ci Ca dd vs σ H Q g2 ck.here g6 g7 fun H' hH => ?_⟩
    rcases hH with rfl | ⟨tp, o, ht, rfl⟩
    · exact q _ _ L.I (KE.refl _) (.bl _)
    · obtain ⟨I2, k2⟩ := I3.laid (p := ⟨ev, σ, hp, H⟩) L.I (o := o) ht
      exact q _ _ I2 k2 (.bl _)
  split at h5
  · rename_i y py
    obtain ⟨n, rfl⟩ : ∃ n, ns = [n] := by
      cases ns with
      | nil => simp [namesB] at h5
      | cons n r =>
        cases r with
        | nil => exact ⟨n, rfl⟩
        | cons n2 r => simp [namesB] at h5
    simp only [namesB, Bool.and_eq_true, decide_eq_true_eq] at h5
    obtain ⟨⟨rfl, h6⟩, _⟩ := h5
    obtain ⟨v, u, kv, pv, qv⟩ := name1 (pn := pn) hU h6
    refine fin rfl (pv py) fun ci Ca dd vs σ H Q hci hm ed ex hq => ⟨⟨dd, vs, ed, ex⟩, .inl ⟨v, u, _, rfl, kv, qv ci hci Ca hm, ?_⟩⟩
    have z := hq H (.inl rfl)
    simpa using z
  · rename_i ts k pt
    simp only [Bool.and_eq_true, decide_eq_true_eq] at h5
    obtain ⟨cs, us, l1, k1, pa1, p1, l2, q1⟩ := names_pa (pn := pn) hU h5.2
    refine fin rfl (pe_tup pa1) fun ci Ca dd vs σ H Q hci hm ed ex hq => ?_
    refine ⟨by rw [l1]; exact Nat.le_trans h5.1 (by decide), fun tp ht => ⟨⟨dd, vs, ed, by rw [upd_ne (ne_of_none ex ht)]; exact ex⟩, .inr ⟨tp, cs, us, _, rfl, upd_same, k1, q1 ci hci Ca hm, hq _ (.inr ⟨tp, _, ht, rfl⟩)⟩⟩⟩
  · cases h5
end
end Mi

set_option maxHeartbeats 2000000
namespace Mi
open PySem PySem.Spec PyProof.Rows L2
/-- a slot gets what our reckoning doesn't know -/
theorem I3.put1 {C : BC} {p : Pt} (I : I3 C p) {i : Nat} (y0 : Option V) (hn : ∀ l, p.ev[i]? ≠ some (some (.ol l))) :
    I3 C { p with ev := p.ev.set i none, st := p.st.set i y0 } ∧ ∀ a, Pt.own { p with ev := p.ev.set i none, st := p.st.set i y0 } a ↔ p.own a := by
  have own1 : ∀ a, Pt.own { p with ev := p.ev.set i none, st := p.st.set i y0 } a ↔ p.own a := fun a => by
    constructor
    · rintro ⟨j, l, e1, e2⟩
      have e1' : (p.ev.set i none)[j]? = some (some (.ol l)) := e1
      have e2' : (p.st.set i y0)[j]? = some (some (.ref a)) := e2
      by_cases hj : i = j
      · subst hj
        rw [List.getElem?_set_self'] at e1'
        cases h : p.ev[i]? with
        | none => rw [h] at e1'; cases e1'
        | some y => rw [h] at e1'; cases e1'
      · rw [List.getElem?_set_ne hj] at e1' e2'
        exact ⟨j, l, e1', e2'⟩
    · rintro ⟨j, l, e1, e2⟩
      have hj : i ≠ j := fun h => hn l (by rw [h]; exact e1)
      exact ⟨j, l, by show (p.ev.set i _)[j]? = _; rw [List.getElem?_set_ne hj]; exact e1, by show (p.st.set i _)[j]? = _; rw [List.getElem?_set_ne hj]; exact e2⟩
  have fb : Fb C { p with ev := p.ev.set i none, st := p.st.set i y0 } = Fb C p := by
    funext a
    unfold Fb
    rw [propext (own1 a)]
  have kB : ∀ {y : SV} {u : V}, RepB C p y u → RepB C { p with ev := p.ev.set i none, st := p.st.set i y0 } y u := by
    rintro (y | l | l) u h
    · show Rep C.K C.mg p.H (Fb C _) y u
      rw [fb]; exact h
    · obtain ⟨a, vs, e, h1, h2, h3, h4⟩ := h
      refine ⟨a, vs, e, h1, h2, h3, ?_⟩
      show Reps C.K C.mg p.H (Fb C _) l vs
      rw [fb]; exact h4
    · exact h
  have ne : ∀ {n : Nat} {y : SV}, (p.ev.set i none)[n]? = some (some y) → i ≠ n := fun {n l} e h => by
    subst h
    rw [List.getElem?_set_self'] at e
    cases h : p.ev[i]? with
    | none => rw [h] at e; cases e
    | some z => rw [h] at e; cases e
  refine ⟨⟨by show (p.ev.set i _).length = (p.st.set i _).length; rw [List.length_set, List.length_set]; exact I.len, fun j y e => ?_, fun a o e => ?_, fun a g => ?_, fun j k l m a e1 e2 e3 e4 => ?_, fun a o e f => ?_, I.up, fun a h => I.on a ((own1 a).mp h)⟩, own1⟩
  · have e' : (p.ev.set i none)[j]? = some (some y) := e
    have hj := ne e'
    rw [List.getElem?_set_ne hj] at e'
    obtain ⟨u, e2, q⟩ := I.slot j y e'
    exact ⟨u, by show (p.st.set i _)[j]? = _; rw [List.getElem?_set_ne hj]; exact e2, kB q⟩
  · obtain ⟨u, e2, q⟩ := I.heap a o e
    refine ⟨u, e2, ?_⟩
    show RepM C.K C.mg C.pw p.H (Fb C _) a o u
    rw [fb]; exact q
  · obtain ⟨h1, h2, h3⟩ := I.g a g
    exact ⟨h1, h2, fun z => h3 ((own1 a).mp z)⟩
  · have e1' : (p.ev.set i none)[j]? = some (some (.ol l)) := e1
    have e2' : (p.ev.set i none)[k]? = some (some (.ol m)) := e2
    have e3' : (p.st.set i y0)[j]? = some (some (.ref a)) := e3
    have e4' : (p.st.set i y0)[k]? = some (some (.ref a)) := e4
    have n1 := ne e1'
    have n2 := ne e2'
    rw [List.getElem?_set_ne n1] at e1' e3'
    rw [List.getElem?_set_ne n2] at e2' e4'
    exact I.uniq j k l m a e1' e2' e3' e4'
  · obtain ⟨h1, h2, h3⟩ := I.kp a o e f
    exact ⟨h1, h2, fun z => h3 ((own1 a).mp z)⟩

theorem KS.put1 {p : Pt} {i : Nat} {y : Option V} (h : ∀ a, Pt.own { p with ev := p.ev.set i none, st := p.st.set i y } a ↔ p.own a) : KS p { p with ev := p.ev.set i none, st := p.st.set i y } :=
  ⟨fun a o e f g => ⟨e, f, fun z => g ((h a).mp z)⟩, fun a e => e⟩
theorem ExR.ks {C : BC} {p p' : Pt} (k : KS p p') {cn : Str} {fs : List (Str × D)} {cls : Value} {d : Option Addr} (h : ExR C p cn fs cls d) : ExR C p' cn fs cls d := by
  obtain ⟨a, dx, vs, e1, e2, e3, e4, e5, e6, e7, e8⟩ := h
  obtain ⟨k1, k2, k3⟩ := k.1 _ _ e4 e5 e6
  refine ⟨a, dx, vs, e1, e2, e3, k1, k2, k3, e7, ?_⟩
  clear e4 k1
  induction e8 with
  | nil => exact .nil
  | cons r t ih => exact .cons ⟨r.1, Rep.keep k.kp r.2⟩ ih
section
variable {c : Ctx} {X : Cx} {C : BC} {cl : CallT} {co : ConT} {EX : Ev → EK} {slot : Option Nat} {a : Addr} {oe : Obj} {pn : List (Addr × Obj)} {cls : Value} {d : Option Addr}
mutual
theorem sX (hU : UOk c X C a oe pn cls d) : ∀ (m : Xp) {e : Expr}, chkX c slot m e = true → SX c (X.suite a ((a, oe) :: pn)) C slot a cls d m e
  | .v i, e, h => by
    simp only [chkX, Bool.and_eq_true, decide_eq_true_eq] at h
    obtain ⟨h1, h2⟩ := h
    simp only [chkE] at h2
    split at h2
    · simp only [Bool.and_eq_true, decide_eq_true_eq] at h2
      obtain ⟨v1, v2, v3⟩ := hU.vis (a := a) (oe := oe) (pn := pn) h2.2
      refine xx_pl (PE.imp (pe_var (i := i) (by show X.N[i]? = _; rw [hU.N]; exact h2.1) v1 v2 v3) fun σ H Q ⟨ev, hp, cn, fs, L, x, e1, q⟩ => ?_) (fun _ => rfl) rfl
      simp only [xv] at e1
      split at e1
      · rename_i x' ex
        cases e1
        obtain ⟨v, hv, r⟩ := L.I.slot i _ ex
        exact ⟨v, hv, q v H L.I (KE.refl _) r⟩
      · cases e1
    · cases h2
  | .int i, e, h => by
    simp only [chkX, chkE] at h
    split at h
    · obtain rfl := of_decide_eq_true h
      exact xx_con pe_int (x := .int i) (fun _ _ _ => by simp only [xv]) (fun _ => .int i) (fun _ => rfl) rfl
    · cases h
  | .bl i, e, h => by
    simp only [chkX, chkE] at h
    split at h
    · obtain rfl := of_decide_eq_true h
      exact xx_con pe_bl (x := .bl i) (fun _ _ _ => by simp only [xv]) (fun _ => .bl i) (fun _ => rfl) rfl
    · cases h
  | .non, e, h => by
    simp only [chkX, chkE] at h
    split at h
    · exact xx_con pe_non (x := .non) (fun _ _ _ => by simp only [xv]) (fun _ => .non) (fun _ => rfl) rfl
    · cases h
  | .str i, e, h => by
    simp only [chkX, chkE] at h
    split at h
    · obtain rfl := of_decide_eq_true h
      exact xx_con pe_str (x := .str i) (fun _ _ _ => by simp only [xv]) (fun _ => .str i) (fun _ => rfl) rfl
    · cases h
  | .tup l, e, h => by
    simp only [chkX] at h
    split at h
    · simp only [Bool.and_eq_true, decide_eq_true_eq] at h
      exact xx_tup h.1 (sXs hU l h.2)
    · cases h
  | .fld i f, e, h => by
    simp only [chkX] at h
    split at h
    · simp only [Bool.and_eq_true, decide_eq_true_eq] at h
      obtain ⟨rfl, h2, h3⟩ := h
      exact xx_fld hU h2 h3
    · cases h
  | .isx i ns yes no, e, h => by
    have h' := h
    simp only [chkX] at h'
    split at h'
    · exact xx_isx hU h
    · cases h'
  | .no m, e, h => by
    simp only [chkX] at h
    split at h
    · exact xx_no (sX hU m h)
    · cases h
  | .an m n, e, h => by
    simp only [chkX] at h
    split at h
    · rename_i x y r p
      simp only [Bool.and_eq_true] at h
      obtain ⟨h1, h2⟩ := h
      cases r with
      | nil =>
        have z := sX hU n h2
        exact xx_an (sX hU m h1) (pe_one z.pe) (pw_and1 z.pt)
      | cons y2 r =>
        have z := sX hU n h2
        exact xx_an (sX hU m h1) z.pe (z.pw rfl)
    · cases h
  | .oo m n, e, h => by
    simp only [chkX] at h
    split at h
    · rename_i x y r p
      simp only [Bool.and_eq_true] at h
      obtain ⟨h1, h2⟩ := h
      cases r with
      | nil =>
        have z := sX hU n h2
        exact xx_oo (sX hU m h1) (pe_one z.pe) (pw_or1 z.pt)
      | cons y2 r =>
        have z := sX hU n h2
        exact xx_oo (sX hU m h1) z.pe (z.pw rfl)
    · cases h
theorem sXs (hU : UOk c X C a oe pn cls d) : ∀ (l : List Xp) {es : List Expr}, chkXs c slot l es = true → PA (X.suite a ((a, oe) :: pn)) es (liftXA c C slot a cls d l)
  | [], es, h => by
    simp only [chkXs] at h
    split at h
    · exact xa_nil
    · cases h
  | m :: r, es, h => by
    simp only [chkXs] at h
    split at h
    · simp only [Bool.and_eq_true] at h
      exact xa_cons h.1.1 (sX hU m h.1.2) (sXs hU r h.2)
    · cases h
end
/-! ### its statements -/
def liftDU (c : Ctx) (C : BC) (slot : Option Nat) (a : Addr) (cls : Value) (d : Option Addr) (cn : Str) (fs : List (Str × D)) (p : Pt) (D : Ends) : EndsD :=
  ⟨fun ev hp => ∀ σ H, LAt c C slot a cls d ⟨ev, σ, hp, H⟩ cn fs → KS p ⟨ev, σ, hp, H⟩ → D.nx σ H, cont C (p0 C.hp0 C.H0) D.rt,
   fun ev hp => ∀ σ H, LAt c C slot a cls d ⟨ev, σ, hp, H⟩ cn fs → KS p ⟨ev, σ, hp, H⟩ → D.bk σ H, fun ev hp => ∀ σ H, LAt c C slot a cls d ⟨ev, σ, hp, H⟩ cn fs → KS p ⟨ev, σ, hp, H⟩ → D.ct σ H, fun _ _ _ _ => True⟩
def liftU (c : Ctx) (C : BC) (slot : Option Nat) (a : Addr) (cls : Value) (d : Option Addr) (w : Str → List (Str × D) → Ev → HpD → EndsD → Prop) : TS := fun D σ H => ∃ ev hp cn fs, LAt c C slot a cls d ⟨ev, σ, hp, H⟩ cn fs ∧ w cn fs ev hp (liftDU c C slot a cls d cn fs ⟨ev, σ, hp, H⟩ D)
theorem liftDU.back {cn : Str} {fs : List (Str × D)} {p p' : Pt} (k : KS p p') {D : Ends} : EndsLe (liftDU c C slot a cls d cn fs p D) (liftDU c C slot a cls d cn fs p' D) :=
  ⟨fun ev hp q σ H L k' => q σ H L (k.trans k'), fun _ _ q => q, fun ev hp q σ H L k' => q σ H L (k.trans k'), fun ev hp q σ H L k' => q σ H L (k.trans k'), fun _ _ _ _ q => q⟩
theorem u_ret (hU : UOk c X C a oe pn cls d) {m : Xp} {v : Expr} {pos : Pos} (h : chkX c slot m v = true) : PS (X.suite a ((a, oe) :: pn)) (.Return (some v) pos) (liftU c C slot a cls d fun cn fs => wsu cn fs (.ret m)) :=
  PS.imp (ps_ret (sX hU m h).pe) fun D σ H ⟨ev, hp, cn, fs, L, q⟩ => by
    simp only [wsu] at q
    obtain ⟨x, ex, q⟩ := onSome_iff.mp q
    exact ⟨ev, hp, cn, fs, L, x, ex, fun v H1 I1 k1 r1 => ret_ok (x := .d x) L.I I1 r1 trivial q⟩
theorem u_asg (hU : UOk c X C a oe pn cls d) {m : Xp} {i : Nat} {x : Str} {py : Pos} {v : Expr} {pos : Pos} (hs : slot ≠ some i) (ha : asgB c (.Name x py) v = true) (ht : tgB c i (.Name x py) = true) (h : chkX c slot m v = true) :
    PS (X.suite a ((a, oe) :: pn)) (.Assign [.Name x py] v pos) (liftU c C slot a cls d fun cn fs => wsu cn fs (.asg i m)) := by
  obtain ⟨s1, s2⟩ := asg_swaps (line := pos.line) (env := X.env) hU.sc ha
  have hg : PG (X.suite a ((a, oe) :: pn)) (.Name x py) (gName i) := by
    unfold tgB at ht
    simp only [Bool.and_eq_true, decide_eq_true_eq] at ht
    obtain ⟨h1, h2⟩ := ht
    split at h2
    · rename_i e'
      exact pg_name (X := X.suite a ((a, oe) :: pn)) hU.nd (by show X.N[i]? = _; rw [hU.N]; exact h1) (.inl (by show X.env.scope.names.lookup x = _; rw [hU.sc]; exact e')) (.inr (by show X.env.scope.names.lookup x = _; rw [hU.sc]; exact e'))
    · rename_i e'
      exact pg_name (X := X.suite a ((a, oe) :: pn)) hU.nd (by show X.N[i]? = _; rw [hU.N]; exact h1) (.inr (by show X.env.scope.names.lookup x = _; rw [hU.sc]; exact e')) (.inl (hU.fnc h2 x))
    · cases h2
  refine PS.imp (ps_asg (sX hU m h).pe hg s1 s2 rfl) fun D σ H ⟨ev, hp, cn, fs, L, q⟩ => ?_
  simp only [wsu] at q
  obtain ⟨y, ey, q⟩ := onSome_iff.mp q
  refine ⟨ev, hp, cn, fs, L, y, ey, fun v H1 I1 k1 r1 => ?_⟩
  obtain ⟨J, ks⟩ := L.I.setX (i := i) (x := .d y) (v := v) I1 k1.ks r1 trivial
  have kk : KS ⟨ev, σ, hp, H⟩ ⟨ev.set i (some (.d y)), σ.set i (some v), hp, H1⟩ := ks
  refine q _ _ ⟨J, L.er.ks kk, fun j ej => ?_, L.ci⟩ kk
  obtain ⟨z1, z2⟩ := L.sl j ej
  have ne : i ≠ j := fun z => hs (by rw [z]; exact ej)
  refine ⟨by show (σ.set i (some v))[j]? = _; rw [List.getElem?_set_ne ne]; exact z1, fun l => ?_⟩
  show (ev.set i _)[j]? ≠ _
  rw [List.getElem?_set_ne ne]; exact z2 l
mutual
theorem sU (hU : UOk c X C a oe pn cls d) : ∀ (s : Su) {st : Stmt}, chkU c slot s st = true → PS (X.suite a ((a, oe) :: pn)) st (liftU c C slot a cls d fun cn fs => wsu cn fs s)
  | .ret e, st, h => by
    simp only [chkU] at h
    split at h
    · exact u_ret hU h
    · cases h
  | .asg i e, st, h => by
    simp only [chkU] at h
    split at h
    · simp only [Bool.and_eq_true, decide_eq_true_eq] at h
      exact u_asg hU h.1.1.1 h.1.1.2 h.1.2 h.2
    · cases h
  | .ite t x y, st, h => by
    simp only [chkU] at h
    split at h
    · simp only [Bool.and_eq_true] at h
      refine PS.imp (ps_if (sX hU t h.1.1).pt (sUs hU x h.1.2) (sUs hU y h.2)) fun D σ H ⟨ev, hp, cn, fs, L, q⟩ => ?_
      simp only [wsu] at q
      split at q
      · rename_i et
        refine ⟨ev, hp, cn, fs, L, true, et, fun H1 I1 k1 => ?_⟩
        exact ⟨ev, hp, cn, fs, L.ke k1 I1, wsus_mono _ _ _ _ _ (liftDU.back k1.ks) q⟩
      · rename_i et
        refine ⟨ev, hp, cn, fs, L, false, et, fun H1 I1 k1 => ?_⟩
        exact ⟨ev, hp, cn, fs, L.ke k1 I1, wsus_mono _ _ _ _ _ (liftDU.back k1.ks) q⟩
      · exact q.elim
    · cases h
  | .pass, st, h => by
    simp only [chkU] at h
    split at h
    · exact PS.imp ps_pass fun D σ H ⟨ev, hp, cn, fs, L, q⟩ => by
        simp only [wsu] at q
        exact q σ H L (KS.refl _)
    · cases h
  | .cont, st, h => by
    simp only [chkU] at h
    split at h
    · exact PS.imp ps_continue fun D σ H ⟨ev, hp, cn, fs, L, q⟩ => by
        simp only [wsu] at q
        exact q σ H L (KS.refl _)
    · cases h
  | .brk, st, h => by
    simp only [chkU] at h
    split at h
    · exact PS.imp ps_break fun D σ H ⟨ev, hp, cn, fs, L, q⟩ => by
        simp only [wsu] at q
        exact q σ H L (KS.refl _)
    · cases h
theorem sUs (hU : UOk c X C a oe pn cls d) : ∀ (l : List Su) {sts : List Stmt}, chkUs c slot l sts = true → PSs (X.suite a ((a, oe) :: pn)) sts (liftU c C slot a cls d fun cn fs => wsus cn fs l)
  | [], sts, h => by
    simp only [chkUs] at h
    split at h
    · exact PSs.imp pss_nil fun D σ H ⟨ev, hp, cn, fs, L, q⟩ => by
        simp only [wsus] at q
        exact q σ H L (KS.refl _)
    · cases h
  | s :: r, sts, h => by
    simp only [chkUs] at h
    split at h
    · simp only [Bool.and_eq_true] at h
      refine PSs.imp (pss_cons (sU hU s h.1) (sUs hU r h.2)) fun D σ H ⟨ev, hp, cn, fs, L, q⟩ => ?_
      simp only [wsus] at q
      refine ⟨ev, hp, cn, fs, L, wsu_mono s ev hp _ _ ?_ q⟩
      exact ⟨fun ev1 hp1 q1 σ1 H1 L1 k1 => ⟨ev1, hp1, cn, fs, L1, wsus_mono r ev1 hp1 _ _ (liftDU.back k1) q1⟩, fun _ _ q => q, fun _ _ q => q, fun _ _ q => q, fun _ _ _ _ q => q⟩
    · cases h
end
end
end Mi

set_option maxHeartbeats 2000000
namespace Mi
open PySem PySem.Spec PyProof.Rows L2
/-! ### a try's body stands as if it were entered anew -/
def BC.tr (C : BC) (p : Pt) : BC := { C with H0 := p.H, hp0 := p.hp }
theorem no_owns {p : Pt} (h : noOls p.ev = true) (a : Addr) : ¬ p.own a := by
  rintro ⟨i, l, e, _⟩
  have z := List.all_eq_true.mp h _ (List.mem_of_getElem? e)
  cases z
theorem I3.toTr {C : BC} {p : Pt} (I : I3 C p) (h : noOls p.ev = true) : I3 (C.tr p) p := ⟨I.len, I.slot, I.heap, I.g, I.uniq, fun a o e f => ⟨e, f, no_owns h a⟩, fun a e => e, fun a z => (no_owns h a z).elim⟩
theorem I3.ofTr {C : BC} {p p1 : Pt} (I0 : I3 C p) (I : I3 (C.tr p) p1) : I3 C p1 ∧ KS p p1 :=
  ⟨⟨I.len, I.slot, I.heap, I.g, I.uniq, fun a o e f => I.kp a o (I0.kp a o e f).1 (I0.kp a o e f).2.1, fun a e => I0.up a (I.up a e), fun a z => I0.up a (I.on a z)⟩,
    fun a o e f _ => I.kp a o e f, I.up⟩
theorem I3.ofTrG {C : BC} {p p1 : Pt} {D : Addr} (I0 : I3 C p) (I : I3 ((C.tr p).wG D) p1) : I3 (C.wG D) p1 :=
  ⟨I.len, I.slot, I.heap, I.g, I.uniq, fun a o e f => I.kp a o (I0.kp a o e f).1 (I0.kp a o e f).2.1, fun a e => I0.up a (I.up a e), fun a z => I0.up a (I.on a z)⟩
theorem cont.ofTr {C : BC} {p : Pt} (I0 : I3 C p) {Q : VK} : SKle (cont C (p0 C.hp0 C.H0) Q) (cont (C.tr p) (p0 p.hp p.H) Q) := fun x hp' q v H' I k r n => by
  refine q v H' (I0.ofTr I).1 ⟨rfl, rfl, fun a o e f => ?_, fun a h => I0.up a (I.up a h)⟩ r ?_
  · obtain ⟨z1, z2, _⟩ := I0.kp a o e f
    obtain ⟨z3, z4, _⟩ := I.kp a o z1 z2
    exact ⟨z3, z4⟩
  · cases x with
    | d x => trivial
    | od l => trivial
    | ol l =>
      intro a e
      obtain ⟨hn, IG, vs, e1, rG⟩ := n a e
      exact ⟨I0.up a hn, I0.ofTrG IG, vs, e1, rG⟩
section
variable {c : Ctx} {X : Cx} {C : BC} {cl : CallT} {co : ConT} {EX : Ev → EK}
theorem name_at (hX : XOk c X C cl co EX) {nm : Option Str} {slot : Option Nat} (h : nameB c nm slot = true) : NameAt X nm slot := by
  cases nm with
  | none =>
    cases slot with
    | none => trivial
    | some i => cases h
  | some n =>
    cases slot with
    | none => cases h
    | some i =>
      simp only [nameB, Bool.and_eq_true, decide_eq_true_eq] at h
      refine ⟨by rw [hX.N]; exact h.1, ?_⟩
      show X.env.scope.names.lookup n = _
      rw [hX.sc]
      exact of_decide_eq_true h.2
/-- the clauses -/
theorem hds_ok (hX : XOk c X C cl co EX) : ∀ (hs : List Hd) {hds : List ExceptHandler}, chkHs c hs hds = true → ∃ l, HdOk X hds l ∧
    ∀ (D : Ends) (p p1 : Pt) (cn : Str) (fs : List (Str × Mi.D)) (cls : Value) (d : Option Addr), I3 C p1 → KS p p1 → ExR C p1 cn fs cls d → whs hs cn fs p1.ev p1.hp (liftD C EX p D) → wHd X.K (fun cls d σ H => EL C EX σ cls d H) D l cls d p1.st p1.H
  | [], hds, h => by
    simp only [chkHs] at h
    split at h
    · exact ⟨[], .nil, fun D p p1 cn fs cls d I1 k er q => ⟨p1.ev, p1.hp, cn, fs, I1, er, q⟩⟩
    · cases h
  | a :: r, hds, h => by
    simp only [chkHs] at h
    split at h
    · rename_i e es
      simp only [Bool.and_eq_true] at h
      obtain ⟨h1, h2⟩ := h
      obtain ⟨l, hl, ih⟩ := hds_ok hX r h2
      unfold chkH at h1
      split at h1
      · rename_i x np nm b₀ suite pos'
        simp only [Bool.and_eq_true, decide_eq_true_eq] at h1
        obtain ⟨⟨⟨⟨⟨⟨rfl, g1⟩, g2⟩, g3⟩, g4⟩, g5⟩, g6⟩ := h1
        obtain ⟨cj, hcj, ej⟩ := List.any_eq_true.mp g2
        have ej := of_decide_eq_true ej
        obtain ⟨Cj, ck⟩ := hX.cls.cl cj hcj
        obtain ⟨gl, d1, d2⟩ := hX.gl g1
        have hm : X.mg a.n = some (.ref Cj) := by rw [← ej]; exact ck.here
        refine ⟨(.ref Cj, a.slot, fun b cls d => liftU c C a.slot b cls d fun cn fs => wsus cn fs a.su) :: l, .cons ⟨gl, d1, .inl hm⟩ (name_at hX g3) (fun b oe cls d pn hz hf => sUs (hX.u hz hf) a.su g6) hl, ?_⟩
        intro D p p1 cn fs cls d I1 k er q
        -- the class
        have one : ∀ b, subB c.ct cn a.n = some b → (∃ ci, c.ct.find? (fun ci => decide (ci.n = cn)) = some ci) ∧ PySem.W.exmOne X.K cls (.ref Cj) = some b := fun b hb => by
          unfold subB at hb
          obtain ⟨ci, hci, e3⟩ := Option.map_eq_some_iff.mp hb
          have hmem := List.mem_of_find?_eq_some hci
          have hn : ci.n = cn := by simpa using List.find?_some hci
          obtain ⟨a', dx, vs, e1, e2, _⟩ := er
          subst e1
          have z := (hX.cls.sub ci hmem cj hcj a' Cj (by rw [hn, ← hX.mg]; exact e2) ck.here).1
          rw [ej, e3] at z
          exact ⟨⟨ci, hci⟩, PySem.W.exm_ref ck.ex.hs ck.ex.hd ck.tyC z⟩
        simp only [whs] at q
        split at q
        · rename_i hy
          obtain ⟨q0, q⟩ := q
          obtain ⟨hci, hex⟩ := one true (of_decide_eq_true (List.all_eq_true.mp g4 cn hy))
          refine ⟨true, hex, fun _ b hb => ?_, fun z => nomatch z⟩
          obtain ⟨n, slot, yes, no, su⟩ := a
          cases slot with
          | none =>
            refine ⟨p1.ev, p1.hp, cn, fs, ⟨I1, er, (fun i z => nomatch z), hci⟩, wsus_mono su _ _ _ _ ?_ q⟩
            exact ⟨fun ev hp q σ H L k' => q σ H L.I (k.trans k'), fun _ _ q => q, fun ev hp q σ H L k' => q σ H L.I (k.trans k'), fun ev hp q σ H L k' => q σ H L.I (k.trans k'), fun _ _ _ _ _ => trivial⟩
          | some i =>
            obtain ⟨q1, q2⟩ := q0
            have hno : ∀ l, p1.ev[i]? ≠ some (some (.ol l)) := noOl_at q2 (.head _)
            obtain ⟨J, ow⟩ := I3.put1 I1 (i := i) (some (.ref b)) hno
            have k2 := KS.put1 ow
            have hlt : i < p1.st.length := by
              rw [← I1.len]
              obtain ⟨y, hy⟩ := Option.isSome_iff_exists.mp q1
              exact (List.getElem?_eq_some_iff.mp hy).1
            have gone : ∀ {f : L2.St → Hp → Prop} {ev : Ev} {hp : HpD}, NX C p f (ev.set i none) hp → ∀ σ H, LAt c C (some i) b cls d ⟨ev, σ, hp, H⟩ cn fs → KS { p1 with ev := p1.ev.set i none, st := p1.st.set i (some (.ref b)) } ⟨ev, σ, hp, H⟩ → f (σ.set i none) H := fun {f ev hp} q σ H L k' => by
              obtain ⟨J2, ow2⟩ := I3.put1 L.I (i := i) none (L.sl i rfl).2
              exact q _ _ J2 (((k.trans k2).trans k').trans (KS.put1 ow2))
            refine ⟨p1.ev.set i none, p1.hp, cn, fs, ⟨J, er.ks k2, ?_, hci⟩, wsus_mono su _ _ _ _ ?_ q⟩
            · intro j ej
              cases ej
              refine ⟨by show (p1.st.set i _)[i]? = _; rw [List.getElem?_set_self hlt], fun l e => ?_⟩
              have e' : (p1.ev.set i none)[i]? = some (some (.ol l)) := e
              rw [List.getElem?_set_self'] at e'
              cases hh : p1.ev[i]? with
              | none => rw [hh] at e'; cases e'
              | some y => rw [hh] at e'; cases e'
            · exact ⟨fun ev hp q σ H L k' => gone q σ H L k', fun _ _ q => q, fun ev hp q σ H L k' => gone q σ H L k', fun ev hp q σ H L k' => gone q σ H L k', fun _ _ _ _ _ => trivial⟩
        · split at q
          · rename_i hno
            obtain ⟨hci, hex⟩ := one false (of_decide_eq_true (List.all_eq_true.mp g5 cn hno))
            exact ⟨false, hex, (fun z => nomatch z), fun _ => ih D p p1 cn fs cls d I1 k er q⟩
          · exact q.elim
      · cases h1
    · cases h
theorem s_tr (hX : XOk c X C cl co EX) {b els : List Sm} {hs : List Hd} {body orelse : List Stmt} {h₀ : ExceptHandler} {hds : List ExceptHandler} {pos : Pos} (ht : c.top = true) (hh : chkHs c hs (h₀ :: hds) = true)
    (hb : ∀ {X' : Cx} {C' : BC} {EX' : Ev → EK}, XOk c X' C' cl co EX' → PSs X' body (liftS C' EX' (wss cl co b))) (he : PSs X orelse (liftS C EX (wss cl co els))) :
    PS X (.Try body (h₀ :: hds) orelse [] pos) (liftS C EX (ws cl co (.tr b hs els))) := by
  obtain ⟨hs1, hf⟩ := hX.tops ht
  obtain ⟨l, HD, key⟩ := hds_ok hX hs hh
  refine PS.imp (ps_tryG (u := liftS C EX (wss cl co els)) hX.nd he hs1 hf hX.tk (tb := fun W D σ H => ∃ (C' : BC) (EX' : Ev → EK), (C'.K = C.K ∧ C'.mg = C.mg ∧ C'.pw = C.pw) ∧ (∀ cls d σ H, EL C' EX' σ cls d H → W cls d σ H) ∧ liftS C' EX' (wss cl co b) D σ H) (fun W pn xe tk pass => ?_) HD) fun D σ H ⟨ev, hp, I, q⟩ => ?_
  · refine ⟨fun pins s σ H D I ⟨C', EX', ⟨eK, em, ew⟩, hW, q⟩ => ?_⟩
    have hX' : XOk c (X.tr pn xe) C' cl co EX' := {
      N := hX.N
      nd := hX.nd
      sc := hX.sc
      calm := hX.calm
      K := by rw [eK]; exact hX.K
      mg := by rw [em]; exact hX.mg
      pw := by rw [ew]; exact hX.pw
      hu := hX.hu
      gd := hX.gd
      bi := hX.bi
      cm := hX.cm
      fn := fun f hf => by
        obtain ⟨k, a, fd, ps, z⟩ := (hX.fn f hf).ex
        refine ⟨k, a, fd, ps, ?_⟩
        rw [eK, em, ew]; exact z
      con := fun x d h => by rw [eK, em]; exact hX.con x d h
      tb := hX.tb
      pass := pass
      fnc := hX.fnc
      tk := tk.imp hW
      cls := hX.cls
      rm := hX.rm
      tops := hX.tops }
    exact (hb hX').run pins s σ H D I q
  · simp only [ws] at q
    obtain ⟨q0, q⟩ := q
    have I' : I3 (C.tr ⟨ev, σ, hp, H⟩) ⟨ev, σ, hp, H⟩ := I.toTr q0
    refine ⟨C.tr ⟨ev, σ, hp, H⟩, fun ev1 cn fs hp1 => whs hs cn fs ev1 hp1 (liftD C EX ⟨ev, σ, hp, H⟩ D), ⟨rfl, rfl, rfl⟩, ?_, ev, hp, I', wss_mono hX.cm b _ _ _ _ ?_ q⟩
    · rintro cls d σ1 H1 ⟨ev1, hp1, cn, fs, I1, er, q1⟩
      obtain ⟨J, k⟩ := I.ofTr I1
      exact key D _ ⟨ev1, σ1, hp1, H1⟩ cn fs cls d J k er q1
    · refine ⟨fun ev1 hp1 q1 σ1 H1 I1 k1 => ?_, cont.ofTr (p := ⟨ev, σ, hp, H⟩) I, fun ev1 hp1 q1 σ1 H1 I1 k1 => q1 σ1 H1 (I.ofTr I1).1 k1, fun ev1 hp1 q1 σ1 H1 I1 k1 => q1 σ1 H1 (I.ofTr I1).1 k1, fun _ _ _ _ q => q⟩
      obtain ⟨J, k⟩ := I.ofTr I1
      exact ⟨ev1, hp1, J, wss_mono hX.cm els _ _ _ _ (liftD.back k1) q1⟩
end
end Mi

namespace Mi
open PySem PySem.Spec PyProof.Rows L2
section
variable {c : Ctx} {X : Cx} {C : BC} {cl : CallT} {co : ConT} {EX : Ev → EK}
theorem ss_nil : PSs X [] (liftS C EX (wss cl co [])) := PSs.imp pss_nil fun D σ H ⟨ev, hp, I, q⟩ => by
  simp only [wss] at q
  exact q σ H I (KS.refl _)
theorem ss_cons (hX : XOk c X C cl co EX) {s : Sm} {r : List Sm} {st : Stmt} {sts : List Stmt} (h1 : PS X st (liftS C EX (ws cl co s))) (h2 : PSs X sts (liftS C EX (wss cl co r))) : PSs X (st :: sts) (liftS C EX (wss cl co (s :: r))) :=
  PSs.imp (pss_cons h1 h2) fun D σ H ⟨ev, hp, I, q⟩ => by
    simp only [wss] at q
    refine ⟨ev, hp, I, ws_mono hX.cm s ev hp _ _ ?_ q⟩
    refine ⟨fun ev1 hp1 q1 σ1 H1 I1 k1 => ⟨ev1, hp1, I1, wss_mono hX.cm r ev1 hp1 _ _ (liftD.back k1) q1⟩, fun _ _ q => q, fun _ _ q => q, fun _ _ q => q, fun _ _ _ _ q => q⟩
theorem ss_fz (hX : XOk c X C cl co EX) {i : Nat} {r : List Sm} {sts : List Stmt} (h2 : PSs X sts (liftS C EX (wss cl co r))) : PSs X sts (liftS C EX (wss cl co (.fz i :: r))) :=
  PSs.imp h2 fun D σ H ⟨ev, hp, I, q⟩ => by
    simp only [wss, ws] at q
    obtain ⟨x, ex, q⟩ := slotK_iff.mp q
    split at q
    · rename_i l
      obtain ⟨J, ks⟩ := I3.frz (p := ⟨ev, σ, hp, H⟩) I ex
      exact ⟨_, hp, J, wss_mono hX.cm r _ _ _ _ (liftD.back ks) q⟩
    · exact q.elim
theorem s_ite' (hX : XOk c X C cl co EX) {t : Ex} {a b : List Sm} {x : Expr} {y z : List Stmt} {pos : Pos} (ht : chkE c t x = true) (ha : PSs X y (liftS C EX (wss cl co a))) (hb : PSs X z (liftS C EX (wss cl co b))) : PS X (.If x y z pos) (liftS C EX (ws cl co (.ite t a b))) :=
  PS.imp (ps_if (sE t hX ht).pt ha hb) fun D σ H ⟨ev, hp, I, q⟩ => by
    simp only [ws] at q
    refine ⟨ev, hp, I, wE_mono hX.cm t _ _ _ _ (truK_mono fun u hp1 q1 H1 I1 k1 => ?_) q⟩
    cases u with
    | true =>
      rw [if_pos rfl] at q1 ⊢
      exact ⟨ev, hp1, I1, wss_mono hX.cm a _ _ _ _ (liftD.back k1.ks) q1⟩
    | false =>
      rw [if_neg Bool.false_ne_true] at q1 ⊢
      exact ⟨ev, hp1, I1, wss_mono hX.cm b _ _ _ _ (liftD.back k1.ks) q1⟩
theorem s_whl (hX : XOk c X C cl co EX) {t : Ex} {b : List Sm} {x : Expr} {y : List Stmt} {pos : Pos} (ht : chkE c t x = true) (hb : PSs X y (liftS C EX (wss cl co b))) : PS X (.While x y [] pos) (liftS C EX (ws cl co (.whl t b))) :=
  PS.imp (ps_while hX.pass (sE t hX ht).pt hb) fun D σ H ⟨ev, hp, I, q⟩ => by
    simp only [ws] at q
    obtain ⟨W, ⟨m0, w0⟩, turn⟩ := q
    refine ⟨fun m σ' H' => ∃ ev' hp', W m ev' hp' ∧ I3 C ⟨ev', σ', hp', H'⟩ ∧ KS ⟨ev, σ, hp, H⟩ ⟨ev', σ', hp', H'⟩, ⟨m0, ev, hp, w0, I, KS.refl _⟩, ?_⟩
    rintro m σ' H' ⟨ev', hp', w', I', k'⟩
    refine ⟨ev', hp', I', wE_mono hX.cm t _ _ _ _ (truK_mono fun u hp1 q1 H1 I1 k1 => ?_) (turn m ev' hp' w')⟩
    have kk : KS ⟨ev, σ, hp, H⟩ ⟨ev', σ', hp1, H1⟩ := k'.trans k1.ks
    cases u with
    | true =>
      rw [if_pos rfl] at q1
      show ∃ N, _
      refine ⟨fun σ2 H2 => ∃ m', m' < m ∧ ∃ ev' hp', W m' ev' hp' ∧ I3 C ⟨ev', σ2, hp', H2⟩ ∧ KS ⟨ev, σ, hp, H⟩ ⟨ev', σ2, hp', H2⟩, fun _ _ h => h, ev', hp1, I1, wss_mono hX.cm b _ _ _ _ ?_ q1⟩
      have hn : NxLe (fun ev hp => ∃ m', m' < m ∧ W m' ev hp) (NX C ⟨ev', σ', hp1, H1⟩ fun σ2 H2 => ∃ m', m' < m ∧ ∃ ev' hp', W m' ev' hp' ∧ I3 C ⟨ev', σ2, hp', H2⟩ ∧ KS ⟨ev, σ, hp, H⟩ ⟨ev', σ2, hp', H2⟩) :=
        fun ev2 hp2 ⟨m2, h2, w2⟩ σ2 H2 I2 k2 => ⟨m2, h2, ev2, hp2, w2, I2, kk.trans k2⟩
      exact ⟨hn, fun _ _ q => q, NX.back kk, hn, fun _ _ _ _ q => q⟩
    | false =>
      rw [if_neg Bool.false_ne_true] at q1
      exact q1 σ' H1 I1 kk
theorem s_for (hX : XOk c X C cl co EX) {t : Tg} {it : It} {b : List Sm} {tg iter : Expr} {y : List Stmt} {pos : Pos} (hg : chkG c t tg = true) (hi : chkI c it iter = true) (hti : tgI it tg = true) (hpl : plainE iter = true) (hb : PSs X y (liftS C EX (wss cl co b))) :
    PS X (.For tg iter y [] pos) (liftS C EX (ws cl co (.fr t it b))) :=
  PS.imp (ps_for hX.pass hX.calm (sI it hX hi false tg hti) (sG hX t hg) hb (folded_of hpl)) fun D σ H ⟨ev, hp, I, q⟩ => by
    simp only [ws] at q
    refine ⟨ev, hp, I, wi_mono hX.cm it false ev hp _ _ _ _ ?_ (fun _ _ _ z => z) q⟩
    intro s hp1 q1 J H1 I1 k1 w1 g1
    let step : Mi.D → Ev → HpD → (Ev → HpD → Prop) → Prop := fun x ev2 hp2 nx => wg cl co t (.d x) ev2 hp2 (fun ev3 hp3 => wss cl co b ev3 hp3 { liftD C EX ⟨ev, σ, hp, H⟩ D with nx := nx, ct := nx, bk := (liftD C EX ⟨ev, σ, hp, H⟩ D).nx }) EX
    let W : Nat → Nat → L2.St → Hp → Prop := fun i m σ' H' => m + i = s.l.length ∧ ∃ ev' hp', I3 C ⟨ev', σ', hp', H'⟩ ∧ KS ⟨ev, σ, hp1, H1⟩ ⟨ev', σ', hp', H'⟩ ∧ loopL step s.g (s.l.drop i) ev' hp' (NX C ⟨ev, σ, hp, H⟩ D.nx)
    refine ⟨W, ⟨s.l.length, rfl, ev, hp1, I1, KS.refl _, q1⟩, ?_⟩
    rintro i m σ' H' ⟨em, ev', hp', I', k', hl⟩
    cases hx : s.l[i]? with
    | none =>
      have hle : s.l.length ≤ i := List.getElem?_eq_none_iff.mp hx
      rw [List.drop_eq_nil_of_le hle] at hl
      obtain ⟨hg', hl⟩ := hl
      exact .inl ⟨w1.stop C _ i (CLe.refl _ _) I' k' hg' hle, hl σ' H' I' (k1.ks.trans k')⟩
    | some x =>
      have hi' : i < s.l.length := (List.getElem?_eq_some_iff.mp hx).1
      have hdrop : s.l.drop i = x :: s.l.drop (i + 1) := by
        rw [List.drop_eq_getElem_cons hi']
        congr 1
        rw [List.getElem?_eq_getElem hi'] at hx
        exact Option.some.inj hx
      rw [hdrop] at hl
      obtain ⟨hg', hl⟩ := hl
      obtain ⟨hgo, hy⟩ := w1.go C _ i x (CLe.refl _ _) I' k' hg' hx
      refine .inr ⟨hgo, fun σ2 H2 => W (i + 1) (m - 1) σ2 H2, fun σ2 H2 hW => ⟨m - 1, by omega, hW⟩, ?_⟩
      intro v H3 hyl
      obtain ⟨I4, k4, rx⟩ := hy v H3 hyl
      refine ⟨⟨ev', σ', hp', H3⟩, .d x, ev', hp', I4, I4, KS.refl _, rx, trivial, wg_mono hX.cm t _ _ _ _ _ _ _ ?_ (fun _ _ _ _ z => z) hl⟩
      intro ev5 hp5 q5 σ5 H5 I5 k5
      have kk : KS ⟨ev, σ, hp1, H1⟩ ⟨ev5, σ5, hp5, H5⟩ := k'.trans (k4.ks.trans k5)
      have hn : NxLe (fun eva hpa => loopL step s.g (s.l.drop (i + 1)) eva hpa (NX C ⟨ev, σ, hp, H⟩ D.nx)) (NX C ⟨ev5, σ5, hp5, H5⟩ fun σ2 H2 => W (i + 1) (m - 1) σ2 H2) :=
        fun ev6 hp6 q6 σ6 H6 I6 k6 => ⟨by omega, ev6, hp6, I6, kk.trans k6, q6⟩
      refine ⟨ev5, hp5, I5, wss_mono hX.cm b _ _ _ _ ?_ q5⟩
      exact ⟨hn, fun _ _ q => q, NX.back (k1.ks.trans kk), hn, fun _ _ _ _ q => q⟩
theorem s_aug' (hX : XOk c X C cl co EX) {i : Nat} {o : BOp} {p : Operator} {e : Ex} {x v : Expr} {pos : Pos} (hp : bopB o p = true) (h0 : o ≠ .pow ∧ o ≠ .rep) (hg : tgB c i x = true) (he : chkE c e v = true) : PS X (.AugAssign x p v pos) (liftS C EX (ws cl co (.aug i o e))) := by
  rw [bopB_eq hp]; exact s_aug hX h0 hg he
mutual
theorem sS {cl : CallT} {co : ConT} : ∀ (s : Sm) {c : Ctx} {X : Cx} {C : BC} {EX : Ev → EK} (hX : XOk c X C cl co EX) {st : Stmt}, chkS c s st = true → PS X st (liftS C EX (ws cl co s))
  | .asg t e, c, X, C, EX, hX, st, h => by
    simp only [chkS] at h
    split at h
    · obtain ⟨h1, h2⟩ := (Bool.and_eq_true _ _ ▸ h : _ ∧ _)
      cases t with
      | n i =>
        rcases (Bool.or_eq_true _ _ ▸ h2 : _ ∨ _) with h3 | h3
        · obtain ⟨h4, h5⟩ := (Bool.and_eq_true _ _ ▸ h3 : _ ∧ _)
          exact s_asg hX h4 (by simp only [chkG]; exact h5) h1
        · obtain ⟨h4, h5⟩ := (Bool.and_eq_true _ _ ▸ h3 : _ ∧ _)
          exact s_asgLc hX h4 h5 h1
      | t l =>
        obtain ⟨h4, h5⟩ := (Bool.and_eq_true _ _ ▸ h2 : _ ∧ _)
        exact s_asg hX h4 h5 h1
      | s o i =>
        obtain ⟨h4, h5⟩ := (Bool.and_eq_true _ _ ▸ h2 : _ ∧ _)
        exact s_asg hX h4 h5 h1
      | ds o i =>
        obtain ⟨h4, h5⟩ := (Bool.and_eq_true _ _ ▸ h2 : _ ∧ _)
        exact s_asg hX h4 h5 h1
    · cases h
  | .par is es, c, X, C, EX, hX, st, h => by
    simp only [chkS] at h
    split at h
    · simp only [Bool.and_eq_true, decide_eq_true_eq, Bool.not_eq_true'] at h
      obtain ⟨⟨⟨⟨⟨⟨⟨h1, h2⟩, h3⟩, h4⟩, h5⟩, h6⟩, h7⟩, h8⟩ := h
      exact s_par hX h1 h2 h3 h5 h6 h7 h8 (by simpa using h4)
    · cases h
  | .aug i o e, c, X, C, EX, hX, st, h => by
    simp only [chkS] at h
    split at h
    · simp only [Bool.and_eq_true, decide_eq_true_eq] at h
      obtain ⟨⟨⟨h1, h2⟩, h3⟩, h4⟩ := h
      exact s_aug' hX h1 h2 h3 h4
    · cases h
  | .augS o i b e, c, X, C, EX, hX, st, h => by
    simp only [chkS] at h
    split at h
    · simp only [Bool.and_eq_true, decide_eq_true_eq] at h
      obtain ⟨⟨⟨⟨⟨⟨h1, h2⟩, h3⟩, h4⟩, h5⟩, h6⟩, h7⟩ := h
      rw [bopB_eq h1]
      exact s_augS hX h2 h3 h4 h5 h6 h7
    · cases h
  | .expr e, c, X, C, EX, hX, st, h => by
    simp only [chkS] at h
    split at h
    · simp only [Bool.and_eq_true] at h
      exact s_expr hX h.1 h.2
    · cases h
  | .mu m o a, c, X, C, EX, hX, st, h => by
    simp only [chkS] at h
    split at h
    · obtain ⟨h, h6⟩ := (Bool.and_eq_true _ _ ▸ h : _ ∧ _)
      obtain ⟨h, h5⟩ := (Bool.and_eq_true _ _ ▸ h : _ ∧ _)
      obtain ⟨h, h4⟩ := (Bool.and_eq_true _ _ ▸ h : _ ∧ _)
      obtain ⟨h, h3⟩ := (Bool.and_eq_true _ _ ▸ h : _ ∧ _)
      obtain ⟨h1, h2⟩ := (Bool.and_eq_true _ _ ▸ h : _ ∧ _)
      exact s_mu hX h1 h2 h3 h4 h5 h6
    · cases h
  | .ite t a b, c, X, C, EX, hX, st, h => by
    simp only [chkS] at h
    split at h
    · simp only [Bool.and_eq_true] at h
      exact s_ite' hX h.1.1 (sSs a hX h.1.2) (sSs b hX h.2)
    · cases h
  | .whl t b, c, X, C, EX, hX, st, h => by
    simp only [chkS] at h
    split at h
    · simp only [Bool.and_eq_true] at h
      exact s_whl hX h.1 (sSs b hX h.2)
    · cases h
  | .fr t it b, c, X, C, EX, hX, st, h => by
    simp only [chkS] at h
    split at h
    · simp only [Bool.and_eq_true] at h
      exact s_for hX h.1.1.1 h.1.1.2.1 h.1.1.2.2 h.1.2 (sSs b hX h.2)
    · cases h
  | .ret e, c, X, C, EX, hX, st, h => by
    simp only [chkS] at h
    split at h
    · exact s_ret hX h
    · cases h
  | .retN, c, X, C, EX, hX, st, h => by
    simp only [chkS] at h
    split at h
    · exact s_retN hX
    · cases h
  | .retV i, c, X, C, EX, hX, st, h => by
    simp only [chkS] at h
    split at h
    · exact s_retV hX h
    · cases h
  | .brk, c, X, C, EX, hX, st, h => by
    simp only [chkS] at h
    split at h
    · exact PS.imp ps_break fun D σ H ⟨ev, hp, I, q⟩ => by
        simp only [ws] at q
        exact q σ H I (KS.refl _)
    · cases h
  | .cont, c, X, C, EX, hX, st, h => by
    simp only [chkS] at h
    split at h
    · exact PS.imp ps_continue fun D σ H ⟨ev, hp, I, q⟩ => by
        simp only [ws] at q
        exact q σ H I (KS.refl _)
    · cases h
  | .pass, c, X, C, EX, hX, st, h => by
    simp only [chkS] at h
    split at h
    · exact PS.imp ps_pass fun D σ H ⟨ev, hp, I, q⟩ => by
        simp only [ws] at q
        exact q σ H I (KS.refl _)
    · cases h
  | .rais n fl l, c, X, C, EX, hX, st, h => by
    simp only [chkS] at h
    split at h
    · simp only [Bool.and_eq_true, decide_eq_true_eq, Bool.not_eq_true'] at h
      obtain ⟨⟨⟨⟨⟨rfl, h2⟩, h3⟩, h4⟩, h5⟩, h6⟩ := h
      exact s_rais hX h2 h3 (fun z => by rw [z] at h5; cases h5) h6
    · cases h
  | .tr b hs els, c, X, C, EX, hX, st, h => by
    simp only [chkS] at h
    split at h
    · rename_i body hds orelse pos
      simp only [Bool.and_eq_true, Bool.not_eq_true'] at h
      obtain ⟨⟨⟨⟨h1, h2⟩, h3⟩, h4⟩, h5⟩ := h
      cases hds with
      | nil => cases h2
      | cons h₀ hds => exact s_tr hX h1 h4 (fun hX' => sSs b hX' h3) (sSs els hX h5)
    · cases h
  | .fz i, c, X, C, EX, hX, st, h => by simp only [chkS] at h; cases h
theorem sSs {cl : CallT} {co : ConT} : ∀ (l : List Sm) {c : Ctx} {X : Cx} {C : BC} {EX : Ev → EK} (hX : XOk c X C cl co EX) {sts : List Stmt}, chkSs c l sts = true → PSs X sts (liftS C EX (wss cl co l))
  | [], c, X, C, EX, hX, sts, h => by
    simp only [chkSs] at h
    split at h
    · exact ss_nil
    · cases h
  | s :: r, c, X, C, EX, hX, sts, h => by
    simp only [chkSs] at h
    split at h
    · rename_i hz
      cases s <;> first | cases hz | skip
      exact ss_fz hX (sSs r hX h)
    · split at h
      · simp only [Bool.and_eq_true] at h
        exact ss_cons hX (sS s hX h.1) (sSs r hX h.2)
      · cases h
end
end
end Mi

namespace Mi
open PySem PySem.Spec PyProof.Rows L2

/-! ### defs -/
def noDoc : List Stmt → List Stmt
  | .Expr (.Constant (.str _) _ _) _ :: r => r
  | l => l
def chkFn (bi fs : List Str) (df : List (Str × List D)) (cls : List ClsI) (F : Fn) (N ps : List Str) (st : Stmt) : Bool :=
  decide N.Nodup && (F.n == N.length) && (F.ar == ps.length) && decide (N.take ps.length = ps) && decide ((defScope st).kind = .function) && !(defScope st).isCoroutine && !(defScope st).isGenerator &&
    ps.all (fun x => decide ((defScope st).names.lookup x = some .local) || decide ((defScope st).names.lookup x = some .cell)) && (defScope st).names.all (fun y => decide (y.2 ≠ .free)) && chkSs ⟨N, defScope st, bi, fs, true, df, cls⟩ F.body (noDoc (defBody st))
theorem chkFn_scope {bi fs : List Str} {df : List (Str × List D)} {cls : List ClsI} {F : Fn} {N ps : List Str} {st : Stmt} (h : chkFn bi fs df cls F N ps st = true) : FnScope N ps (defScope st) ∧ F.n = N.length ∧ F.ar = ps.length ∧ chkSs ⟨N, defScope st, bi, fs, true, df, cls⟩ F.body (noDoc (defBody st)) = true := by
  unfold chkFn at h
  simp only [Bool.and_eq_true, decide_eq_true_eq, beq_iff_eq, Bool.not_eq_true'] at h
  obtain ⟨⟨⟨⟨⟨⟨⟨⟨⟨h1, h2⟩, h3⟩, h4⟩, h5⟩, h6⟩, h7⟩, h8⟩, h9⟩, h10⟩ := h
  refine ⟨⟨h5, h6, h7, h1, h4, fun x hx => ?_, fun y hy => ?_⟩, h2, h3, h10⟩
  · have := List.all_eq_true.mp h8 x hx
    simpa only [Bool.or_eq_true, decide_eq_true_eq] using this
  · exact of_decide_eq_true (List.all_eq_true.mp h9 y hy)
theorem doc_run {X : Cx} {b : List Stmt} {t : TS} (h : PSs X (noDoc b) t) : ∃ t', PSs X b t' ∧ ∀ D σ H, t D σ H → t' D σ H := by
  unfold noDoc at h
  split at h
  · exact ⟨_, pss_cons ps_doc h, fun D σ H q => q⟩
  · exact ⟨t, h, fun _ _ _ q => q⟩
structure DefOk (K : PySem.W.Frag) (mg : Str → Option Value) (df : List (Str × List D)) (x : Str) (st : Stmt) (ps : List Str) : Prop where
  ex : ∃ a fd, FunV K x x st a fd ∧ mg x = some (.ref a) ∧ Binds K fd ps [] ∧ ∀ p ∈ df, p.1 = x → ∃ (dv : List V) (ds : List Value), Vals dv ds ∧ Binds K fd ps ds ∧ ∀ H F, Reps K mg H F p.2 dv
/-- what stands in the module, beside our terms -/
structure ModOk (P : Program) (w : World) (K : PySem.W.Frag) (mg : Str → Option Value) (Pg : Mi.Pg) (co : ConT) (bi fs : List Str) (df : List (Str × List D)) (ct : List ClsI) : Prop where
  hbi : ∀ x ∈ bi, mg x = none
  con : ∀ x d, co x = some d → ∃ u v, mg x = some u ∧ RelV v u ∧ ∀ H F, Rep K mg H F d v
  tb : ∀ p ∈ df, p.2 ≠ [] → ∀ fs, tabOf p.2 = some fs → TabX w K mg p.1 fs
  fn : ∀ f ∈ fs, ∃ st N ps F, Pg f = some F ∧ DefOk K mg df f st ps ∧ chkFn bi fs df ct F N ps st = true
  cls : ∀ base, ClOk P w K mg base ct
section
variable {P : Program} {w : World} {K : PySem.W.Frag} {mg : Str → Option Value} {base : Heap} {Pg : Mi.Pg} {co : ConT} {bi fs : List Str} {df : List (Str × List D)} {ct : List ClsI}
theorem start_I3 {pw : Program × World} {G : Addr → Prop} {H : Hp} {hp : HpD} {ds : List D} {vs : List V} {N : List Str} (I : I3 ⟨K, mg, pw, G, H, hp⟩ (p0 hp H)) (r : RepsP ⟨K, mg, pw, G, H, hp⟩ (p0 hp H) ds vs) : I3 ⟨K, mg, pw, G, H, hp⟩ ⟨startD N.length ds, L2.start N vs, hp, H⟩ := by
  have el : ds.length = vs.length := r.length
  have noO : ∀ (i : Nat) (l : List D), (startD N.length ds)[i]? ≠ some (some (.ol l)) := fun i l e => by
    unfold startD at e
    rw [List.getElem?_append] at e
    split at e
    · rw [List.getElem?_map] at e
      obtain ⟨d, _, z⟩ := Option.map_eq_some_iff.mp e
      cases z
    · rw [List.getElem?_replicate] at e
      split at e <;> cases e
  have noOwn : ∀ a, ¬ Pt.own ⟨startD N.length ds, L2.start N vs, hp, H⟩ a := fun a ⟨i, l, e, _⟩ => noO i l e
  have fb : Fb ⟨K, mg, pw, G, H, hp⟩ ⟨startD N.length ds, L2.start N vs, hp, H⟩ = Fb ⟨K, mg, pw, G, H, hp⟩ (p0 hp H) := by
    funext a
    unfold Fb
    rw [propext ⟨fun z => (noOwn a z).elim, fun z => (no_own z).elim⟩ (a := Pt.own ⟨startD N.length ds, L2.start N vs, hp, H⟩ a) (b := Pt.own (p0 hp H) a)]
  refine ⟨?_, fun i x e => ?_, fun a o e => ?_, fun a g => ?_, fun i j l m a e => (noO i l e).elim, fun a o e f => ?_, I.up, fun a h => (noOwn a h).elim⟩
  · show (startD N.length ds).length = (L2.start N vs).length
    unfold startD L2.start
    simp [el]
  · have e' : (startD N.length ds)[i]? = some (some x) := e
    unfold startD at e'
    rw [List.getElem?_append] at e'
    split at e'
    · rename_i hi
      rw [List.getElem?_map] at e'
      obtain ⟨d, hd, z⟩ := Option.map_eq_some_iff.mp e'
      cases z
      obtain ⟨v, hv, rv⟩ := Reps.get r hd
      refine ⟨v, ?_, ?_⟩
      · show (L2.start N vs)[i]? = _
        unfold L2.start
        have hi' : i < (vs.map some).length := by simpa [el] using hi
        rw [List.getElem?_append_left hi', List.getElem?_map, hv]
        rfl
      · show Rep K mg H (Fb _ _) d v
        rw [fb]; exact rv
    · rw [List.getElem?_replicate] at e'
      split at e' <;> cases e'
  · obtain ⟨u, e2, q⟩ := I.heap a o e
    refine ⟨u, e2, ?_⟩
    show RepM K mg pw H (Fb _ _) a o u
    rw [fb]; exact q
  · obtain ⟨h1, h2, _⟩ := I.g a g
    exact ⟨h1, h2, noOwn a⟩
  · obtain ⟨h1, h2, _⟩ := I.kp a o e f
    exact ⟨h1, h2, noOwn a⟩
theorem ExR.drop {C : BC} {p : Pt} {c : Str} {fs : List (Str × D)} {cls : Value} {d : Option Addr} (I : I3 C p) (h : ExR C p c fs cls d) : ExR C (p0 p.hp p.H) c fs cls d := by
  obtain ⟨J, kp⟩ := I.drop (C' := C) rfl rfl rfl rfl rfl fun a g => .inl g
  obtain ⟨a, dx, vs, e1, e2, e3, e4, e5, e6, e7, e8⟩ := h
  refine ⟨a, dx, vs, e1, e2, e3, e4, e5, no_own, e7, ?_⟩
  clear e4
  induction e8 with
  | nil => exact .nil
  | cons r t ih => exact .cons ⟨r.1, Rep.keep kp r.2⟩ ih
structure FnAt (P : Program) (w : World) (K : PySem.W.Frag) (mg : Str → Option Value) (base : Heap) (df : List (Str × List D)) (k : Nat) (cl : CallT) (f : Str) : Prop where
  ex : ∃ a fd ps, FnG P w K mg base (L2.CX P w) k a fd ps (liftF K mg (P, w) cl f) ∧ mg f = some (.ref a) ∧ PySem.W.keepIn K (.ref a) = true ∧ Binds K fd ps [] ∧ ∀ p ∈ df, p.1 = f → ∃ (dv : List V) (ds : List Value), Vals dv ds ∧ Binds K fd ps ds ∧ ∀ H F, Reps K mg H F p.2 dv
/-- two levels of room stand below: an error's own __init__ -/
theorem fn_all (M : ModOk P w K mg Pg co bi fs df ct) : ∀ k, ∀ f ∈ fs, FnAt P w K mg base df (k + 2) (callD Pg co k) f
  | 0, f, hf => by
    obtain ⟨st, N, ps, F, _, ⟨a, fd, Fu, hm, hb, hd⟩, _⟩ := M.fn f hf
    refine ⟨a, fd, ps, ⟨fun vs H Q E h => ?_, fun A outer s H args us vs Q E hr hG e0 hbt r h => ?_⟩, hm, Fu.kp, hb, hd⟩
    · obtain ⟨ds, hp, G, I, r, q⟩ := h
      exact False.elim q
    · obtain ⟨ds, hp, G, I, r, q⟩ := h
      exact False.elim q
  | k + 1, f, hf => by
    obtain ⟨st, N, ps, F, hP, ⟨a, fd, Fu, hm, hb, hd⟩, hc⟩ := M.fn f hf
    obtain ⟨S, h1, h2, h3⟩ := chkFn_scope hc
    refine ⟨a, fd, ps, fn_ofG (k := k + 2) Fu S (fun vs H Q E h => ?_) (fun cdv A outer s H vs Q E hr hG h => ?_), hm, Fu.kp, hb, hd⟩
    · obtain ⟨ds, hp, G, I, r, q⟩ := h
      obtain ⟨F', hF, hl, q⟩ := onSome_iff.mp q
      rw [hP] at hF; cases hF
      rw [← r.length, hl, h2]
    · obtain ⟨ds, hp, G, I, r, q⟩ := h
      obtain ⟨F', hF, hl, q⟩ := onSome_iff.mp q
      rw [hP] at hF; cases hF
      have hX : XOk ⟨N, defScope st, bi, fs, true, df, ct⟩ (cxOf (L2.CX P w) P w K mg base N f (defScope st) a cdv A outer s H E) ⟨K, mg, (P, w), G, H, hp⟩ (callD Pg co k) co (fun _ => exF ⟨K, mg, (P, w), G, H, hp⟩ (p0 hp H) E) := {
        N := rfl
        nd := S.nd
        sc := rfl
        calm := rfl
        K := rfl
        mg := rfl
        pw := rfl
        hu := by
          have z := hr.un
          show (A.deeper _).units + 66 < cLine
          omega
        gd := hG
        bi := M.hbi
        cm := call_mono Pg co k
        fn := fun g hg => by
          obtain ⟨a', fd', ps', F', m', k', b', d'⟩ := (fn_all M k g hg).ex
          exact ⟨k + 2, a', fd', ps', F', hr, m', k', b', d'⟩
        con := M.con
        tb := M.tb
        pass := passes_of rfl
        fnc := fun _ _ => rfl
        tk := by
          refine Takes.imp (takes_of (E := E) rfl rfl rfl rfl) ?_
          rintro cls d σ H' ⟨ev, hp', c, fs, J, er, z⟩
          obtain ⟨J', kp⟩ := J.drop (C' := ⟨K, mg, (P, w), G, H, hp⟩) rfl rfl rfl rfl rfl fun a g => .inl g
          exact z cls d H' J' ⟨rfl, rfl, fun a o e f => ⟨(J.kp a o e f).1, (J.kp a o e f).2.1⟩, J.up⟩ (ExR.drop J er)
        cls := M.cls base
        rm := hr.mono (by omega)
        tops := fun _ => ⟨rfl, rfl⟩ }
      obtain ⟨t, ht, ft⟩ := doc_run (sSs F.body hX h3)
      refine ⟨t, ht, ft _ _ _ ⟨startD F.n ds, hp, by rw [h1]; exact start_I3 I r, wss_mono (call_mono Pg co k) F.body _ _ _ _ ?_ q⟩⟩
      have IS : I3 ⟨K, mg, (P, w), G, H, hp⟩ ⟨startD F.n ds, L2.start N vs, hp, H⟩ := by rw [h1]; exact start_I3 I r
      exact ⟨fun ev1 hp1 q1 σ1 H1 I1 k1 => ret_ok (x := .d .non) I1 I1 .non trivial q1, fun _ _ q => q, fun _ _ q => q.elim, fun _ _ q => q.elim, fun _ _ _ _ q => q⟩
end
end Mi

namespace Mi
open PySem PySem.Spec PyProof.Rows L2

/-! ### from a law's term to its row -/
section
variable {P : Program} {w : World} {K : PySem.W.Frag} {mg mb : Str → Option Value} {CX : CXT} {k : Nat} {fa a : Addr} {sp : Sp} {s : Shared} {vs : List Value} {ns : List Int}
/-- what is wanted behind the law's call -/
abbrev LawEnd (s : Shared) (r : Result) (s' : Shared) : Prop := r = .ok (.ret (.bool true)) ∧ OldK s.heap s'.heap ∧ s'.os = s.os ∧ AllBare s'.gens
theorem law_at (H : Hp) (KX : K.In s.heap) (n0 : s.heap.Ns mainGlobals mg) (nb : s.heap.Ns builtinsNs mb) (nbb : ∀ x : Str, x ≠ "__name__" → mb x = bootBuiltins x) (lim : s.heap.NoLimit) (hg : s.gens = #[])
    (ea : s.heap.get? a = some { cls := .type "list", data := .seq vs.toArray }) (hr : Room k callerA)
    (F : ∀ base : Heap, K.In base → base.Ns mainGlobals mg → ∃ fd ps, FnG P w K mg base CX k fa fd ps sp ∧ Binds K fd ps [])
    (hO : Only H) (ok : HOk P w H s.heap) (hA : ∀ b, H b ≠ none → b = a) (hK : H a ≠ none → K.lookup a = none) (hsp : sp [.ref a] H (fun v _ => v = .bl true) fun _ _ _ => False)
    (hCX : ∀ e s', CX [] H s (fun _ _ _ => False) e s' → False) :
    codeAny (model P w) callerA (.call (.ref fa) ⟨[.ref a], []⟩) (LawEnd s) s := by
  have isA : ∀ {b : Addr} {u : HO}, H b = some u → b = a := fun {b u} q => hA b (by rw [q]; exact nofun)
  have isN : ∀ {b : Addr}, b ≠ a → H b = none := fun {b} nb => by
    cases q : H b with
    | none => rfl
    | some u => exact (nb (isA q)).elim
  have dictN : ∀ {b : Addr} {o : Obj} {es : Array DictEntry} {ep : Nat}, s.heap.get? b = some o → o.data = .dict es ep → H b = none := fun {b o es ep} e d => isN fun z => by
    rw [z, ea] at e
    cases e
    cases (show Data.seq vs.toArray _ = Data.dict es ep from d)
  have nsH : ∀ {b : Addr} {m : Str → Option Value}, s.heap.Ns b m → (hidT s.heap H).Ns b m := fun h => by
    obtain ⟨o, es, ep, e, d, r⟩ := h
    exact ⟨o, es, ep, hidT_get e (dictN e d), d, r⟩
  have inH : K.In (hidT s.heap H) := fun b o e => hidT_get (KX b o e) (by
    cases q : H b with
    | none => rfl
    | some u =>
      have z := isA q
      rw [z] at q e
      rw [hK (by rw [q]; exact nofun)] at e
      cases e)
  have md : Mod K mg (hidT s.heap H) := by
    obtain ⟨mc, l1, l2⟩ := lim
    exact ⟨inH, nsH n0, ⟨mb, nsH nb, nbb⟩, ⟨mc, nsH l1, l2⟩⟩
  have none_in : ∀ b : Addr, b ∉ ([] : List Addr) := fun b z => nomatch z
  have e0 : Env0 P w K mg (hidT s.heap H) callerA [] s H := {
    frames := rfl
    mod := md
    bs := fun b o e => of_hidT e
    bsz := Nat.le_of_eq (hidT_size _ _)
    funs := trivial
    frf := fun b hb => (none_in b hb).elim
    hok := ok
    bare := .of_eq hg }
  obtain ⟨fd, ps, G, B⟩ := F _ inH (nsH n0)
  have hlen : ([.ref a] : List V).length = ps.length := G.len _ _ _ _ hsp
  have bind := B s [.ref a] KX hlen
  rw [List.append_nil] at bind
  refine codeAny_mono (G.run callerA [] s H _ [.ref a] [.ref a] _ _ hr rfl e0 bind (.cons rfl .nil) hsp) ?_
  rintro (e | fl) s' h
  · exact (hCX e s' h).elim
  · cases fl <;> first | exact False.elim h | skip
    obtain ⟨v, H', os, bare, un, ok', rv, q⟩ := h
    cases (show v = .bl true from q)
    cases (show _ = Value.bool true from rv)
    refine ⟨rfl, OldK.of_keep ?_, os, bare⟩
    intro b o e
    cases q : H b with
    | none => exact un.keep b o e q (none_in b) (none_in b)
    | some u =>
      rcases hO b with z | ⟨ob, xs, z⟩
      · rw [z] at q; cases q
      · have k1 := (ok b _ z).1
        have k2 := (ok' b _ (un.frzs b ob _ z)).1
        rw [k1] at e
        cases e
        exact k2
theorem law_both (KX : K.In s.heap) (n0 : s.heap.Ns mainGlobals mg) (nb : s.heap.Ns builtinsNs mb) (nbb : ∀ x : Str, x ≠ "__name__" → mb x = bootBuiltins x) (lim : s.heap.NoLimit) (hg : s.gens = #[])
    (ea : s.heap.get? a = some { cls := .type "list", data := .seq vs.toArray }) (hi : IntsAre vs ns) (hl : ns.length ≤ sizeLine) (hr : Room k callerA)
    (F : ∀ base : Heap, K.In base → base.Ns mainGlobals mg → ∃ fd ps, FnG P w K mg base CX k fa fd ps sp ∧ Binds K fd ps [])
    (hsp : ∀ H : Hp, SqL K H a (ns.map V.int) → sp [.ref a] H (fun v _ => v = .bl true) fun _ _ _ => False) (hCX : ∀ H e s', CX [] H s (fun _ _ _ => False) e s' → False) :
    codeAny (model P w) callerA (.call (.ref fa) ⟨[.ref a], []⟩) (LawEnd s) s := by
  have rv : Vals (ns.map V.int) vs := vals_ints hi
  cases hk : K.lookup a with
  | some o =>
    have e := KX a o hk
    rw [ea] at e
    cases e
    have z0 : ∀ (b : Addr) (u : HO), (fun _ => none : Hp) b = some u → False := fun b u z => by cases (show (none : Option HO) = some u from z)
    refine law_at (fun _ => none) KX n0 nb nbb lim hg ea hr F (fun _ => .inl rfl) (fun b u z => (z0 b u z).elim) (fun b z => (z rfl).elim) (fun z => (z rfl).elim) (hsp _ (.inr ⟨_, vs.toArray, _, hk, rfl, rfl, rfl, ?_, by simpa using rv⟩)) (hCX _)
    rw [List.size_toArray, hi.length]
    exact hl
  | none =>
    have at1 : ∀ b, (if b = a then some (HO.frz { cls := .type "list", data := .seq vs.toArray } (.lst (ns.map V.int))) else none) ≠ none → b = a := fun b z => by
      by_cases hb : b = a
      · exact hb
      · exact (z (if_neg hb)).elim
    refine law_at (fun b => if b = a then some (.frz { cls := .type "list", data := .seq vs.toArray } (.lst (ns.map V.int))) else none) KX n0 nb nbb lim hg ea hr F (fun b => ?_) (fun b u z => ?_) at1 (fun _ => hk) (hsp _ (.inl (.inr ⟨_, if_pos rfl⟩))) (hCX _)
    · by_cases hb : b = a
      · exact .inr ⟨_, _, if_pos hb⟩
      · exact .inl (if_neg hb)
    · have hb : b = a := at1 b (by rw [show (if b = a then _ else _) = some u from z]; exact nofun)
      subst hb
      cases (if_pos rfl).symm.trans z
      exact ⟨ea, by rw [List.length_map]; exact hl, vs, _, rv, ea⟩
end
theorem law_I3 {pw : Program × World} {K : PySem.W.Frag} {mg : Str → Option Value} {H : Hp} : I3 ⟨K, mg, pw, fun _ => False, H, fun _ => none⟩ (p0 (fun _ => none) H) where
  len := rfl
  slot := fun i x e => by simp at e
  heap := fun a o e => nomatch e
  g := fun a h => h.elim
  uniq := fun i j l m a e => by simp at e
  kp := fun a o e f => ⟨e, f, no_own⟩
  up := fun a h => h
  on := fun a h => (no_own h).elim
theorem reps_ints {K : PySem.W.Frag} {mg : Str → Option Value} {H : Hp} {F : Addr → Prop} : ∀ ns : List Int, Reps K mg H F (ns.map D.int) (ns.map V.int)
  | [] => .nil
  | n :: ns => .cons (.int n) (reps_ints ns)
theorem script_rep {pw : Program × World} {K : PySem.W.Frag} {mg : Str → Option Value} {H : Hp} {a : Addr} {ns : List Int} (h : SqL K H a (ns.map V.int)) : RepsP ⟨K, mg, pw, fun _ => False, H, fun _ => none⟩ (p0 (fun _ => none) H) [.lst (ns.map D.int)] [.ref a] := by
  have nf : ¬ Fb ⟨K, mg, pw, fun _ => False, H, fun _ => none⟩ (p0 (fun _ => none) H) a := fun z => by
    rcases z with z | z | z
    · exact z rfl
    · exact no_own z
    · exact z
  refine .cons (.lst ?_ (reps_ints ns)) .nil
  rcases h with h | h
  · exact .inl ⟨h, nf⟩
  · exact .inr fun H' => .inr h
/-- the row's walk, by the law's term -/
theorem walk_ofG {l : PySem.W.OpenLaw} {k n : Nat} {q : Program} {loose : List Str} {XP : (Str → Option Value) → Heap → Prop} {YP : World → Heap → Prop} {d : DefRec} {K : Params → PySem.W.Frag} {Pg : Mi.Pg} {co : ConT} {bi fs : List Str} {df : List (Str × List D)} {ct : List ClsI}
    (hn : l.most = some n) (hn2 : n ≤ sizeLine) (hdf : d.params.defaults = []) (hd : d.name = "law") (hl : ("law" : Str) ∈ fs) (hr : Room (k + 2) callerA) (hY : ∀ (w : World) (h : Heap), YP w h → (K w.params).In h)
    (M : ∀ (w : World) (mg : Str → Option Value) (h : Heap), (K w.params).In h → h.Ns mainGlobals mg → ModOk l.prog w (K w.params) mg Pg co bi fs df ct)
    (law : ∀ ns : List Int, ns.length ≤ n → callD Pg co k "law" [.lst (ns.map D.int)] (fun _ => none) (truK fun b _ => b = true) noE) :
    PySem.W.WalkO q loose XP YP l.row.toRowW d [] (fun f vs => PySem.call f vs) := by
  refine Att.attach_call hn hdf fun w s₀ s₁ mg mb fa o pm cd doc a vs ns G Y ho hdd hcd hmg hobj hints hlen hg => ?_
  have KX := hY w _ Y
  rw [hd] at hmg
  refine law_both (k := k + 2) (CX := L2.CX l.prog w) (sp := liftF (K w.params) mg (l.prog, w) (callD Pg co k) "law") KX G.T.g G.T.b G.T.builtins G.T.nolimit hg hobj hints (Nat.le_trans hlen hn2) hr (fun base kb nb => ?_) (fun H hS => ?_) ?_
  · obtain ⟨a', fd, ps, F, m, _, B, _⟩ := (fn_all (P := l.prog) (w := w) (base := base) (M w mg _ KX G.T.g) k "law" hl).ex
    rw [hmg] at m
    cases m
    exact ⟨fd, ps, F, B⟩
  · exact ⟨_, _, _, law_I3, script_rep hS, call_mono Pg co k _ _ _ _ _ _ _ (truK_cont fun b hp' e H' I' k' => by rw [e]) (fun _ _ _ z => z.elim) (law ns hlen)⟩
  · rintro H e s' ⟨_, _, H', cls, d, _, _, _, _, _, _, _, z⟩
    exact z
end Mi

namespace Mi
open PySem PySem.Spec PyProof.Rows L2
structure TRow where
  k : Str
  t : Tok
  a : Addr
  f : Str
def TRow.en (P : Params) (r : TRow) : DictEntry := ⟨PyData.keyHash P r.k, .str r.k r.t, .ref r.a⟩
theorem rows_lit {P : Params} : ∀ rows : List TRow, PySem.W.KeysLit P (rows.map (TRow.en P))
  | [] => trivial
  | r :: l => ⟨⟨r.k, r.t, rfl, rfl⟩, rows_lit l⟩
theorem rows_some {P : Params} (s f : Str) : ∀ rows : List TRow, (rows.map fun r => (r.k, r.f)).lookup s = some f → ∃ r ∈ rows, r.f = f ∧ (rows.map (TRow.en P)).find? (·.key.isStr s) = some (r.en P)
  | [], h => by simp at h
  | r :: l, h => by
    simp only [List.map_cons, List.lookup_cons] at h
    simp only [List.map_cons, List.find?_cons]
    have e : (r.en P).key.isStr s = (r.k == s) := rfl
    rw [e]
    by_cases z : r.k = s
    · subst z
      simp only [BEq.rfl] at h ⊢
      exact ⟨r, List.mem_cons_self, Option.some.inj h, rfl⟩
    · have z1 : (r.k == s) = false := by simpa using z
      have z2 : (s == r.k) = false := by simpa using fun q => z (Eq.symm q)
      rw [z2] at h
      rw [z1]
      obtain ⟨r', hr, q⟩ := rows_some s f l h
      exact ⟨r', List.mem_cons_of_mem _ hr, q⟩
theorem rows_none {P : Params} (s : Str) : ∀ rows : List TRow, (rows.map fun r => (r.k, r.f)).lookup s = none → (rows.map (TRow.en P)).find? (·.key.isStr s) = none
  | [], h => rfl
  | r :: l, h => by
    simp only [List.map_cons, List.lookup_cons] at h
    simp only [List.map_cons, List.find?_cons]
    have e : (r.en P).key.isStr s = (r.k == s) := rfl
    rw [e]
    by_cases z : r.k = s
    · subst z
      simp only [BEq.rfl] at h
      cases h
    · have z1 : (r.k == s) = false := by simpa using z
      have z2 : (s == r.k) = false := by simpa using fun q => z (Eq.symm q)
      rw [z2] at h
      rw [z1]
      exact rows_none s l h
theorem rows_ref {P : Params} : ∀ rows : List TRow, (rows.map (TRow.en P)).any (·.refKey) = false
  | [] => rfl
  | r :: l => by
    simp only [List.map_cons, List.any_cons, rows_ref l]
    rfl
/-- a written table, as the top wrote it -/
theorem tabX_of {w : World} {K : PySem.W.Frag} {mg : Str → Option Value} {t : Str} {d : Addr} {n : Nat} (rows : List TRow) (hm : mg t = some (.ref d)) (hl : K.lookup d = some ⟨.type "dict", none, .dict ((rows.map (TRow.en w.params)).toArray) n, #[]⟩) (low : (d == sysModules) = false)
    (hf : ∀ r ∈ rows, mg r.f = some (.ref r.a)) : TabX w K mg t (rows.map fun r => (r.k, r.f)) := by
  refine ⟨d, _, n, hm, ⟨hl, by simpa using rows_lit rows, low⟩, fun s f h => ?_, fun s h => ?_⟩
  · obtain ⟨r, hr, e, q⟩ := rows_some (P := w.params) s f rows h
    refine ⟨r.a, ?_, by rw [← e]; exact hf r hr⟩
    unfold PySem.W.nsIn
    rw [hl]
    dsimp only
    rw [q]; rfl
  · have q := rows_none (P := w.params) s rows h
    unfold PySem.W.nsIn
    rw [hl]
    dsimp only
    rw [q]
    dsimp only
    rw [rows_ref]; rfl
end Mi

namespace Mi
open PySem PySem.Spec PyProof.Rows L2

/-- how a def with defaults binds: n values are written, ds fill up -/
theorem bindD {K : PySem.W.Frag} {fd : FuncData} {ps : List Str} {T : Addr} {o : Obj} {its : Array Value} {m : Nat} {ds : List Value} (n : Nat) (lT : K.lookup T = some o) (oT : o.data = .seq its m) (hn : n + ds.length = ps.length)
    (h : ∀ us : List Value, us.length = n → ∃ k, bindArgs fd ⟨us, []⟩ = seqItems? (.ref T) >>= k ∧ k (some its) = pure (ps.zip (us ++ ds))) : Binds K fd ps ds := fun s us X hlen => by
  have l2 : us.length = n := by
    rw [List.length_append] at hlen
    omega
  refine BindsTo.of_looks fun M => ?_
  obtain ⟨k, e1, e2⟩ := h us l2
  rw [e1]
  exact looks_items X lT oT (.of_pure e2)
theorem kit_own {K : PySem.W.Frag} {Ci Cj : Addr} {b : Bool} (h1 : PySem.W.typeIn K (.ref Cj) = some (.type "type")) (hd : PySem.W.hasDictIn K Cj = true) (hs0 : PySem.W.subIn K (.ref Ci) (.ref Ci) = some true) (hs : PySem.W.subIn K (.ref Ci) (.ref Cj) = some b) :
    PySem.W.kitOne K (.ref Ci) (.ref Cj) = some b := by
  unfold PySem.W.kitOne
  by_cases e : (Value.ref Ci == Value.ref Cj) = true
  · rw [if_pos e]
    have e2 : Ci = Cj := Value.ref.inj (beq_iff_eq.mp e)
    rw [← e2, hs0] at hs
    exact hs
  · rw [if_neg e]
    obtain ⟨cd, hc, _⟩ := PySem.W.any_some hd
    show (if ((PySem.W.clsIn K Cj).isSome && PySem.W.typeIn K (.ref Cj) == some (.type "type")) = true then PySem.W.subIn K (.ref Ci) (.ref Cj) else none) = _
    rw [if_pos (by rw [hc, h1]; rfl)]
    exact hs
theorem kit_tyb {K : PySem.W.Frag} {Ci : Addr} {T : String} {b : Bool} (hm : PySem.W.kitMeta T = true) (hs : PySem.W.subIn K (.ref Ci) (.type T) = some b) : PySem.W.kitOne K (.ref Ci) (.type T) = some b := by
  unfold PySem.W.kitOne
  rw [if_neg (by simp)]
  show (if PySem.W.kitMeta T = true then PySem.W.subIn K (.ref Ci) (.type T) else none) = _
  rw [if_pos hm]
  exact hs
/-! ### to reckon with terms -/
section
variable {P : Mi.Pg} {co : ConT}
abbrev noNx : Ev → HpD → Prop := fun _ _ => False
theorem call_intro {k : Nat} {f : Str} {F : Fn} {ds : List D} {hp : HpD} {Q : SK} {E : EK} (hF : P f = some F) (hl : ds.length = F.ar)
    (h : wss (callD P co k) co F.body (startD F.n ds) hp ⟨fun _ hp => Q (.d .non) hp, Q, noNx, noNx, fun c fs _ hp => E c fs hp⟩) : callD P co (k + 1) f ds hp Q E := by
  show onSome (P f) _
  rw [hF]
  exact ⟨hl, h⟩
end
@[simp] theorem onSome_some {α : Type} (a : α) (k : α → Prop) : onSome (some a) k = k a := rfl
@[simp] theorem onSome_none {α : Type} (k : α → Prop) : onSome (none : Option α) k = False := rfl
theorem slotK_eq {ev : Ev} {i : Nat} {x : SV} {k : SV → Prop} (h : ev[i]? = some (some x)) (q : k x) : slotK ev i k := slotK_iff.mpr ⟨x, h, q⟩
@[simp] theorem slotK_z (x : SV) (ev : Ev) (k : SV → Prop) : slotK (some x :: ev) 0 k = k x := rfl
@[simp] theorem slotK_s (x : Option SV) (ev : Ev) (i : Nat) (k : SV → Prop) : slotK (x :: ev) (i + 1) k = slotK ev i k := rfl
@[simp] theorem truK_bl (b : Bool) (hp : HpD) (Q : Bool → HpD → Prop) : truK Q (.d (.bl b)) hp = Q b hp := rfl
@[simp] theorem intK_int (b : Int) (hp : HpD) (Q : Int → HpD → Prop) : intK Q (.d (.int b)) hp = Q b hp := rfl
@[simp] theorem valK_d (b : D) (hp : HpD) (Q : D → HpD → Prop) : valK Q (.d b) hp = Q b hp := rfl
@[simp] theorem valK_ol (b : List D) (hp : HpD) (Q : D → HpD → Prop) : valK Q (.ol b) hp = Q (.lst b) hp := rfl
@[simp] theorem asD_d (b : D) (Q : D → Prop) : asD (.d b) Q = Q b := rfl
@[simp] theorem asD_ol (b : List D) (Q : D → Prop) : asD (.ol b) Q = Q (.lst b) := rfl
@[simp] theorem updD_at (hp : HpD) (a : Addr) (o : MO) : updD hp a o a = some o := updD_same
@[simp] theorem updD_2 (hp : HpD) (a : Addr) (o u : MO) : updD (updD hp a o) a u = updD hp a u := updD_updD
/-- a number of so many bits -/
def Bd (b : Nat) (x : Int) : Prop := 0 ≤ x ∧ x < 2 ^ b
theorem Bd.le {a b : Nat} {x : Int} (h : Bd a x) (l : a ≤ b) : Bd b x := ⟨h.1, Int.lt_of_lt_of_le h.2 (by exact_mod_cast Nat.pow_le_pow_right (by decide) l)⟩
theorem Bd.mul {a b : Nat} {x y : Int} (h : Bd a x) (g : Bd b y) : Bd (a + b) (x * y) := by
  refine ⟨Int.mul_nonneg h.1 g.1, ?_⟩
  rw [Int.pow_add]
  have h1 : x * y ≤ (2 ^ a - 1) * (2 ^ b - 1) := Int.mul_le_mul (Int.le_sub_one_of_lt h.2) (Int.le_sub_one_of_lt g.2) g.1 (by have := h.1; have := h.2; omega)
  have e : ((2 : Int) ^ a - 1) * (2 ^ b - 1) = 2 ^ a * 2 ^ b - 2 ^ a - 2 ^ b + 1 := by
    rw [Int.sub_mul, Int.mul_sub]; omega
  have pa : (0 : Int) < 2 ^ a := Int.lt_of_le_of_lt h.1 h.2
  have pb : (0 : Int) < 2 ^ b := Int.lt_of_le_of_lt g.1 g.2
  omega
theorem Bd.add {a : Nat} {x y : Int} (h : Bd a x) (g : Bd a y) : Bd (a + 1) (x + y) := by
  have e : (2 : Int) ^ (a + 1) = 2 ^ a * 2 := Int.pow_succ ..
  have := h.1; have := h.2; have := g.1; have := g.2
  exact ⟨by omega, by rw [e]; omega⟩
theorem Bd.div {a : Nat} {x y : Int} (h : Bd a x) (g : 0 ≤ y) : Bd a (x / y) := ⟨Int.ediv_nonneg h.1 g, Int.lt_of_le_of_lt (Int.ediv_le_self _ h.1) h.2⟩
theorem Bd.natAbs {a : Nat} {x : Int} (h : Bd a x) : x.natAbs < 2 ^ a := by
  have h1 := h.1
  have h2 := h.2
  have e : ((x.natAbs : Nat) : Int) = x := Int.natAbs_of_nonneg h1
  have h3 : ((x.natAbs : Nat) : Int) < ((2 ^ a : Nat) : Int) := by rw [e]; exact_mod_cast h2
  exact_mod_cast h3
theorem Bd.log {a : Nat} {x : Int} (h : Bd a x) : x.natAbs.log2 ≤ a := by
  by_cases z : x.natAbs = 0
  · rw [z]; exact Nat.zero_le _
  · exact Nat.le_of_lt ((Nat.log2_lt z).mpr h.natAbs)
theorem Bd.cmul {a b : Nat} {x y : Int} (h : Bd a x) (g : Bd b y) (l : a + b < 1000000) : CMulW x y := by
  unfold CMulW
  have := h.log
  have := g.log
  omega
theorem Bd.cdiv {b : Nat} {x y : Int} (g : Bd b y) (p : 0 < y) (l : b < 9000) : CDivW x y := by
  refine ⟨p, ?_⟩
  have := g.log
  omega
theorem Bd.of {a : Nat} {x : Int} (h : 0 ≤ x) (g : x < 2 ^ a) : Bd a x := ⟨h, g⟩
end Mi

namespace Mi
open PySem PySem.Spec PyProof.Rows L2

/-! ### the feed -/
theorem pds_ints : ∀ ns : List Int, D.pds (ns.map .int) = some (ns.map .int)
  | [] => rfl
  | n :: ns => by
    show (match D.pd (.int n), D.pds (ns.map .int) with | some a, some b => some (a :: b) | _, _ => none) = _
    rw [pds_ints ns]; rfl
theorem depth_ints : ∀ ns : List Int, PyData.depthAll (ns.map .int) ≤ 1
  | [] => by decide
  | n :: ns => by
    have := depth_ints ns
    simp only [List.map_cons, PyData.depthAll, PyData.depth]
    omega
theorem eq_nil {ns : List Int} {hp : HpD} {k : Bool → Prop} (h : k (decide (ns = []))) : opEq (.d (.lst (ns.map .int))) (.ol []) hp k := by
  show onSome ((D.pds (ns.map .int)).map PyData.list) fun a => onSome ((D.pds []).map PyData.list) fun b => min a.depth b.depth ≤ 64 ∧ k (PyData.eqv a b)
  rw [pds_ints]
  refine ⟨Nat.le_trans (Nat.min_le_right _ _) (by decide), ?_⟩
  have e : PyData.eqv (.list (ns.map .int)) (.list []) = decide (ns = []) := by
    cases ns with
    | nil => simp [PyData.eqv, PyData.eqvAll]
    | cons n ns => simp [PyData.eqv, PyData.eqvAll]
  show k (PyData.eqv (.list (ns.map .int)) (.list []))
  rw [e]; exact h
def feedO (ns : List Int) (t r u : Int) : MO := .lst [.lst (ns.map .int), .int t, .int r, .int u]
/-- so many draws may follow -/
def FeedL (ns : List Int) (b : Nat) (o : MO) : Prop := ∃ t r u : Int, o = feedO ns t r u ∧ 0 ≤ t ∧ 0 ≤ u ∧ u + b < 2 ^ 60
theorem atI_ints {ns : List Int} {i : Int} (h0 : 0 ≤ i) (h1 : i < ns.length) : atI (ns.map D.int) i = some (.int (ns.getD i.toNat 0)) := by
  unfold atI ixN
  rw [if_pos h0, List.length_map, if_pos h1]
  show (ns.map D.int)[i.toNat]? = _
  have : i.toNat < ns.length := by omega
  rw [List.getElem?_map, List.getElem?_eq_getElem this]
  simp [List.getD, List.getElem?_eq_getElem this]
theorem atI4 {a b c d : D} : atI [a, b, c, d] 0 = some a ∧ atI [a, b, c, d] 1 = some b ∧ atI [a, b, c, d] 2 = some c ∧ atI [a, b, c, d] 3 = some d := ⟨rfl, rfl, rfl, rfl⟩
theorem Bd60 {u : Int} {b : Nat} (h0 : 0 ≤ u) (h : u + b < 2 ^ 60) : Bd 60 u := ⟨h0, by omega⟩
theorem Bd.const {a : Nat} {x : Int} (h : decide (0 ≤ x) && decide (x < 2 ^ a) = true) : Bd a x := by
  simpa [Bd] using h
theorem Bd.mod {x y : Int} {a : Nat} (h : decide (0 < y) && decide (y ≤ 2 ^ a) = true) : Bd a (x % y) := by
  simp at h
  exact ⟨Int.emod_nonneg _ (by omega), Int.lt_of_lt_of_le (Int.emod_lt_of_pos _ h.1) h.2⟩
end Mi

namespace Mi
open PySem PySem.Spec PyProof.Rows L2

/-! ### one step of a term, backwards -/
section
variable {cl : CallT} {co : ConT} {ev : Ev} {hp : HpD} {Q : SK} {E : EK} {nx bk ct : Ev → HpD → Prop} {rt : SK} {ex : Str → List (Str × D) → Ev → HpD → Prop}
theorem w_nil (h : nx ev hp) : wss cl co [] ev hp ⟨nx, rt, bk, ct, ex⟩ := by simp only [wss]; exact h
theorem w_cons {s : Sm} {r : List Sm} (h : ws cl co s ev hp ⟨fun ev hp => wss cl co r ev hp ⟨nx, rt, bk, ct, ex⟩, rt, bk, ct, ex⟩) : wss cl co (s :: r) ev hp ⟨nx, rt, bk, ct, ex⟩ := by simp only [wss]; exact h
theorem w_asg {t : Tg} {e : Ex} (h : wr cl co e ev hp (fun x hp => wg cl co t x ev hp nx (fun ev c fs hp => ex c fs ev hp)) (fun c fs hp => ex c fs ev hp)) : ws cl co (.asg t e) ev hp ⟨nx, rt, bk, ct, ex⟩ := by simp only [ws]; exact h
theorem w_par {is : List Nat} {es : List Ex} (h : wps cl co es ev hp (fun xs hp => onSome (setAllS is xs ev) fun ev => nx ev hp) (fun c fs hp => ex c fs ev hp)) : ws cl co (.par is es) ev hp ⟨nx, rt, bk, ct, ex⟩ := by simp only [ws]; exact h
theorem w_aug {i : Nat} {o : BOp} {e : Ex} (h : slotK ev i fun x => asN x ∧ borK e ev hp (fun Q => wr cl co e ev hp Q (fun c fs hp => ex c fs ev hp)) fun y hp => opBin o x y hp fun z hp => nx (ev.set i (some z)) hp) : ws cl co (.aug i o e) ev hp ⟨nx, rt, bk, ct, ex⟩ := by simp only [ws]; exact h
theorem w_augS {o i e : Ex} {p : BOp} (h : mutK o ev hp (fun Q => wr cl co o ev hp Q (fun c fs hp => ex c fs ev hp)) fun l hp st => wr cl co i ev hp (intK fun i hp => onSome (ixN l.length i) fun n => onSome (l[n]?) fun x => numS x ∧
      wr cl co e ev hp (fun y hp => opBin p (.d x) y hp fun z hp => asD z fun z => st (l.set n z) hp nx) (fun c fs hp => ex c fs ev hp)) (fun c fs hp => ex c fs ev hp)) : ws cl co (.augS o i p e) ev hp ⟨nx, rt, bk, ct, ex⟩ := by simp only [ws]; exact h
theorem w_expr {e : Ex} (h : wr cl co e ev hp (fun _ hp => nx ev hp) (fun c fs hp => ex c fs ev hp)) : ws cl co (.expr e) ev hp ⟨nx, rt, bk, ct, ex⟩ := by simp only [ws]; exact h
theorem w_app {o a : Ex} (h : mutK o ev hp (fun Q => wr cl co o ev hp Q (fun c fs hp => ex c fs ev hp)) fun l hp st => wr cl co a ev hp (valK fun d hp => l.length < sizeLine ∧ st (l ++ [d]) hp nx) (fun c fs hp => ex c fs ev hp)) : ws cl co (.mu .append o a) ev hp ⟨nx, rt, bk, ct, ex⟩ := by simp only [ws]; exact h
theorem w_ext {o a : Ex} (h : mutK o ev hp (fun Q => wr cl co o ev hp Q (fun c fs hp => ex c fs ev hp)) fun l hp st => borK a ev hp (fun Q => wr cl co a ev hp Q (fun c fs hp => ex c fs ev hp)) fun y hp => onSome (olOf y) fun m => l.length + m.length ≤ sizeLine ∧ st (l ++ m) hp nx) :
    ws cl co (.mu .extend o a) ev hp ⟨nx, rt, bk, ct, ex⟩ := by simp only [ws]; exact h
theorem w_ite {c : Ex} {a b : List Sm} (h : wr cl co c ev hp (truK fun t hp => if t = true then wss cl co a ev hp ⟨nx, rt, bk, ct, ex⟩ else wss cl co b ev hp ⟨nx, rt, bk, ct, ex⟩) (fun c fs hp => ex c fs ev hp)) : ws cl co (.ite c a b) ev hp ⟨nx, rt, bk, ct, ex⟩ := by simp only [ws]; exact h
theorem w_whl {c : Ex} {b : List Sm} (h : ∃ I : Nat → Ev → HpD → Prop, (∃ m, I m ev hp) ∧ ∀ m ev hp, I m ev hp → wr cl co c ev hp (truK fun t hp => if t = true then
      wss cl co b ev hp ⟨fun ev hp => ∃ m', m' < m ∧ I m' ev hp, rt, nx, fun ev hp => ∃ m', m' < m ∧ I m' ev hp, ex⟩ else nx ev hp) (fun c fs hp => ex c fs ev hp)) : ws cl co (.whl c b) ev hp ⟨nx, rt, bk, ct, ex⟩ := by simp only [ws]; exact h
theorem w_fr {t : Tg} {e : It} {b : List Sm} (h : wi cl co e false ev hp (fun s hp => loopL (fun x ev hp nx' => wg cl co t (.d x) ev hp (fun ev hp => wss cl co b ev hp ⟨nx', rt, nx, nx', ex⟩) (fun ev c fs hp => ex c fs ev hp)) s.g s.l ev hp nx) (fun c fs hp => ex c fs ev hp)) :
    ws cl co (.fr t e b) ev hp ⟨nx, rt, bk, ct, ex⟩ := by simp only [ws]; exact h
theorem w_ret {e : Ex} (h : wr cl co e ev hp rt (fun c fs hp => ex c fs ev hp)) : ws cl co (.ret e) ev hp ⟨nx, rt, bk, ct, ex⟩ := by simp only [ws]; exact h
theorem w_retN (h : rt (.d .non) hp) : ws cl co .retN ev hp ⟨nx, rt, bk, ct, ex⟩ := by simp only [ws]; exact h
theorem w_retV {i : Nat} (h : slotK ev i fun x => rt x hp) : ws cl co (.retV i) ev hp ⟨nx, rt, bk, ct, ex⟩ := by simp only [ws]; exact h
theorem w_brk (h : bk ev hp) : ws cl co .brk ev hp ⟨nx, rt, bk, ct, ex⟩ := by simp only [ws]; exact h
theorem w_cont (h : ct ev hp) : ws cl co .cont ev hp ⟨nx, rt, bk, ct, ex⟩ := by simp only [ws]; exact h
theorem w_pass (h : nx ev hp) : ws cl co .pass ev hp ⟨nx, rt, bk, ct, ex⟩ := by simp only [ws]; exact h
theorem w_fz {i : Nat} {l : List D} (e : ev[i]? = some (some (.ol l))) (h : nx (ev.set i (some (.d (.lst l)))) hp) : ws cl co (.fz i) ev hp ⟨nx, rt, bk, ct, ex⟩ := by simp only [ws]; exact slotK_iff.mpr ⟨_, e, h⟩
theorem w_rais {c : Str} {fl : List Str} {l : List Ex} (h : was cl co l ev hp (fun ds hp => ds.length = fl.length ∧ ex c (fl.zip ds).reverse ev hp) (fun c fs hp => ex c fs ev hp)) : ws cl co (.rais c fl l) ev hp ⟨nx, rt, bk, ct, ex⟩ := by simp only [ws]; exact h
theorem w_tr {b els : List Sm} {hs : List Hd} (h0 : noOls ev = true) (h : wss cl co b ev hp ⟨fun ev hp => wss cl co els ev hp ⟨nx, rt, bk, ct, ex⟩, rt, bk, ct, fun c fs ev hp => whs hs c fs ev hp ⟨nx, rt, bk, ct, ex⟩⟩) : ws cl co (.tr b hs els) ev hp ⟨nx, rt, bk, ct, ex⟩ := by simp only [ws]; exact ⟨h0, h⟩
/-! except clauses -/
theorem wh_yes {h : Hd} {r : List Hd} {c : Str} {fs : List (Str × D)} {D : EndsD} (e : decide (c ∈ h.yes) = true) (n : noOlO h.slot ev) (q : wsus c fs h.su (setN h.slot ev) hp (goneE h.slot D)) : whs (h :: r) c fs ev hp D := by
  simp only [whs]
  rw [if_pos (of_decide_eq_true e)]
  exact ⟨n, q⟩
theorem wh_no {h : Hd} {r : List Hd} {c : Str} {fs : List (Str × D)} {D : EndsD} (e : decide (c ∈ h.yes) = false) (e2 : decide (c ∈ h.no) = true) (q : whs r c fs ev hp D) : whs (h :: r) c fs ev hp D := by
  simp only [whs]
  rw [if_neg (of_decide_eq_false e), if_pos (of_decide_eq_true e2)]
  exact q
theorem u_nil {c : Str} {fs : List (Str × D)} {D : EndsD} (h : D.nx ev hp) : wsus c fs [] ev hp D := by simp only [wsus]; exact h
theorem su_ret {c : Str} {fs : List (Str × D)} {D : EndsD} {e : Xp} {r : List Su} {d : Mi.D} (h : xv ev c fs e = some d) (q : D.rt (.d d) hp) : wsus c fs (.ret e :: r) ev hp D := by
  simp only [wsus, wsu, h]
  exact q
theorem su_asg {c : Str} {fs : List (Str × D)} {D : EndsD} {i : Nat} {e : Xp} {r : List Su} {d : Mi.D} (h : xv ev c fs e = some d) (q : wsus c fs r (ev.set i (some (.d d))) hp D) : wsus c fs (.asg i e :: r) ev hp D := by
  simp only [wsus, wsu, h]
  exact q
theorem su_iteT {c : Str} {fs : List (Str × D)} {D : EndsD} {t : Xp} {a b r : List Su} (h : xv ev c fs t = some (.bl true)) (q : wsus c fs a ev hp { D with nx := fun ev hp => wsus c fs r ev hp D }) : wsus c fs (.ite t a b :: r) ev hp D := by
  simp only [wsus, wsu, h]
  exact q
theorem su_iteF {c : Str} {fs : List (Str × D)} {D : EndsD} {t : Xp} {a b r : List Su} (h : xv ev c fs t = some (.bl false)) (q : wsus c fs b ev hp { D with nx := fun ev hp => wsus c fs r ev hp D }) : wsus c fs (.ite t a b :: r) ev hp D := by
  simp only [wsus, wsu, h]
  exact q
/-! targets -/
variable {k : Ev → HpD → Prop} {G : Ev → EK}
theorem g_n {i : Nat} {x : SV} (h : k (ev.set i (some x)) hp) : wg cl co (.n i) x ev hp k G := by simp only [wg]; exact h
theorem g_t {l : List Tg} {ds : List D} (h1 : ds.length = l.length) (h : wgs cl co l ds ev hp k G) : wg cl co (.t l) (.d (.tup ds)) ev hp k G := by simp only [wg]; exact ⟨h1, h⟩
theorem g_ds {o i : Ex} {x : SV} (h : asD x fun d => wr cl co o ev hp (fun u hp => wr cl co i ev hp (fun y hp => dictP u y d hp fun hp => k ev hp) (G ev)) (G ev)) : wg cl co (.ds o i) x ev hp k G := by simp only [wg]; exact h
theorem g_s {o i : Ex} {x : SV} (h : asD x fun d => mutK o ev hp (fun Q => wr cl co o ev hp Q (G ev)) fun l hp st => wr cl co i ev hp (intK fun i hp => onSome (ixN l.length i) fun n => st (l.set n d) hp k) (G ev)) : wg cl co (.s o i) x ev hp k G := by simp only [wg]; exact h
theorem gs_n (h : k ev hp) : wgs cl co [] [] ev hp k G := by rw [wgs]; exact ⟨rfl, h⟩
theorem gs_c {t : Tg} {r : List Tg} {d : D} {ds : List D} (h : wg cl co t (.d d) ev hp (fun ev hp => wgs cl co r ds ev hp k G) G) : wgs cl co (t :: r) (d :: ds) ev hp k G := by simp only [wgs]; exact h
/-! slots -/
theorem k_z {x : SV} {k : SV → Prop} (h : k x) : slotK (some x :: ev) 0 k := h
theorem k_s {x : Option SV} {i : Nat} {k : SV → Prop} (h : slotK ev i k) : slotK (x :: ev) (i + 1) k := h
theorem m_z {i : Nat} {w : SK → Prop} {k : List D → HpD → (List D → HpD → (Ev → HpD → Prop) → Prop) → Prop} {l : List D} (e : ev[i]? = some (some (.ol l))) (h : k l hp fun l' hp' nx => nx (ev.set i (some (.ol l'))) hp') : mutK (.v i) ev hp w k := by
  unfold mutK
  exact slotK_iff.mpr ⟨_, e, h⟩
theorem m_r {i : Nat} {w : SK → Prop} {k : List D → HpD → (List D → HpD → (Ev → HpD → Prop) → Prop) → Prop} {l : List D} {a : Addr} {hp : HpD} (e : ev[i]? = some (some (.d (.ref a)))) (h : k l (updD hp a (.lst l)) fun l' hp' nx => hp' a = some (.lst l) ∧ nx ev (updD hp' a (.lst l'))) :
    mutK (.v i) ev (updD hp a (.lst l)) w k := by
  unfold mutK
  refine slotK_iff.mpr ⟨_, e, ?_⟩
  show (match updD hp a (.lst l) a with | some (.lst l) => _ | _ => False)
  rw [updD_same]
  exact h
theorem put_r {a : Addr} {l l' : List D} {nx : HpD → Prop} (h : nx (updD hp a (.lst l'))) : updD hp a (.lst l) a = some (.lst l) ∧ nx (updD (updD hp a (.lst l)) a (.lst l')) := ⟨updD_same, by rw [updD_updD]; exact h⟩
/-! expressions -/
theorem r_v {i : Nat} (h : slotK ev i fun x => match x with | .d x => Q (.d x) hp | _ => False) : wr cl co (.v i) ev hp Q E := by simp only [wr]; exact h
theorem r_vd {i : Nat} {x : D} (e : ev[i]? = some (some (.d x))) (h : Q (.d x) hp) : wr cl co (.v i) ev hp Q E := by simp only [wr]; exact slotK_iff.mpr ⟨_, e, h⟩
theorem r_int {i : Int} (h : Q (.d (.int i)) hp) : wr cl co (.int i) ev hp Q E := by simp only [wr]; exact h
theorem r_bl {i : Bool} (h : Q (.d (.bl i)) hp) : wr cl co (.bl i) ev hp Q E := by simp only [wr]; exact h
theorem r_non (h : Q (.d .non) hp) : wr cl co .non ev hp Q E := by simp only [wr]; exact h
theorem r_str {i : Str} (h : Q (.d (.str i)) hp) : wr cl co (.str i) ev hp Q E := by simp only [wr]; exact h
theorem r_g {x : Str} {d : D} (e : co x = some d) (h : Q (.d d) hp) : wr cl co (.g x) ev hp Q E := by simp only [wr, e]; exact h
theorem r_tup {l : List Ex} (h : was cl co l ev hp (fun ds hp => Q (.d (.tup ds)) hp) E) : wr cl co (.tup l) ev hp Q E := by simp only [wr]; exact h
theorem r_lst {l : List Ex} (h : was cl co l ev hp (fun ds hp => Q (.ol ds) hp) E) : wr cl co (.lst l) ev hp Q E := by simp only [wr]; exact h
theorem r_bin {o : BOp} {a b : Ex} (h : borK a ev hp (fun Q => wr cl co a ev hp Q E) fun x hp => borK b ev hp (fun Q => wr cl co b ev hp Q E) fun y hp => opBin o x y hp Q) : wr cl co (.bin o a b) ev hp Q E := by simp only [wr]; exact h
theorem r_neg {a : Ex} (h : wr cl co a ev hp (fun x hp => opNeg x hp Q) E) : wr cl co (.neg a) ev hp Q E := by simp only [wr]; exact h
theorem r_no {a : Ex} (h : wr cl co a ev hp (truK fun b hp => Q (.d (.bl (!b))) hp) E) : wr cl co (.no a) ev hp Q E := by simp only [wr]; exact h
theorem r_an {a b : Ex} (h : wr cl co a ev hp (truK fun c hp => if c = true then wr cl co b ev hp Q E else Q (.d (.bl false)) hp) E) : wr cl co (.an a b) ev hp Q E := by simp only [wr]; exact h
theorem r_oo {a b : Ex} (h : wr cl co a ev hp (truK fun c hp => if c = true then Q (.d (.bl true)) hp else wr cl co b ev hp Q E) E) : wr cl co (.oo a b) ev hp Q E := by simp only [wr]; exact h
theorem r_ite {c a b : Ex} (h : wr cl co c ev hp (truK fun c hp => if c = true then wr cl co a ev hp Q E else wr cl co b ev hp Q E) E) : wr cl co (.ite c a b) ev hp Q E := by simp only [wr]; exact h
theorem r_cmp {o : COp} {a b : Ex} (h : borK a ev hp (fun Q => wr cl co a ev hp Q E) fun x hp => borK b ev hp (fun Q => wr cl co b ev hp Q E) fun y hp => opCmp o x y hp fun c => Q (.d (.bl c)) hp) : wr cl co (.cmp o a b) ev hp Q E := by simp only [wr]; exact h
theorem r_cmp2 {o p : COp} {a b c : Ex} (h : borK a ev hp (fun Q => wr cl co a ev hp Q E) fun x hp => borK b ev hp (fun Q => wr cl co b ev hp Q E) fun y hp => opCmp o x y hp fun t =>
      if t = true then borK c ev hp (fun Q => wr cl co c ev hp Q E) fun z hp => opCmp p y z hp fun c => Q (.d (.bl c)) hp else Q (.d (.bl false)) hp) : wr cl co (.cmp2 o p a b c) ev hp Q E := by simp only [wr]; exact h
theorem r_ix {a i : Ex} (h : borK a ev hp (fun Q => wr cl co a ev hp Q E) fun x hp => wr cl co i ev hp (intK fun i hp => opIx x i hp Q) E) : wr cl co (.ix a i) ev hp Q E := by simp only [wr]; exact h
theorem r_sl {a lo hi : Ex} (h : borK a ev hp (fun Q => wr cl co a ev hp Q E) fun x hp => prtK lo hp (fun Q => wr cl co lo ev hp Q E) fun l hp => prtK hi hp (fun Q => wr cl co hi ev hp Q E) fun u hp => opSl x l u hp Q) : wr cl co (.sl a lo hi) ev hp Q E := by simp only [wr]; exact h
theorem r_call {f : Str} {l : List Ex} (h : was cl co l ev hp (fun ds hp => cl f ds hp Q E) E) : wr cl co (.call f l) ev hp Q E := by simp only [wr]; exact h
theorem r_calld {f : Str} {l : List Ex} {dv : List D} (h : was cl co l ev hp (fun ds hp => cl f (ds ++ dv) hp Q E) E) : wr cl co (.calld f l dv) ev hp Q E := by simp only [wr]; exact h
theorem r_b1 {f : B1} {a : Ex} (h : borK a ev hp (fun Q => wr cl co a ev hp Q E) fun x hp => opB1 f x hp Q) : wr cl co (.b1 f a) ev hp Q E := by simp only [wr]; exact h
theorem r_b2 {f : B2} {a b : Ex} (h : wr cl co a ev hp (fun x hp => wr cl co b ev hp (fun y hp => opB2 f x y hp Q) E) E) : wr cl co (.b2 f a b) ev hp Q E := by simp only [wr]; exact h
theorem r_isi {a : Ex} {t : Ty} (h : borK a ev hp (fun Q => wr cl co a ev hp Q E) fun x hp => onSome (isTy hp t x) fun b => Q (.d (.bl b)) hp) : wr cl co (.isi a t) ev hp Q E := by simp only [wr]; exact h
theorem r_comp {m c : Ex} {tg own : List Nat} {it : It} (h : noOl ev own = true) (q : wi cl co it true ev hp (fun s hp => compL (fun x hp k => onSome (tgSet tg x (wipeD ev own)) fun ev' =>
      wr cl co c ev' hp (truK fun b hp => if b = true then wr cl co m ev' hp (valK fun y hp => k (some y) hp) noE else k none hp) noE) s.g s.l [] hp fun acc hp => Q (.ol acc) hp) E) : wr cl co (.comp m tg it c own) ev hp Q E := by simp only [wr]; exact ⟨h, q⟩
theorem r_back {a : Ex} (h : borK a ev hp (fun Q => wr cl co a ev hp Q E) fun x hp => opBack x hp Q) : wr cl co (.back a) ev hp Q E := by simp only [wr]; exact h
theorem r_m1 {m : M1} {o a : Ex} (h : borK o ev hp (fun Q => wr cl co o ev hp Q E) fun x hp => recM m x ∧ wr cl co a ev hp (fun y hp => opM1 m x y hp Q) E) : wr cl co (.m1 m o a) ev hp Q E := by simp only [wr]; exact h
theorem r_m0 {m : M0} {o : Ex} (h : borK o ev hp (fun Q => wr cl co o ev hp Q E) fun x hp => opM0 m x hp Q) : wr cl co (.m0 m o) ev hp Q E := by simp only [wr]; exact h
theorem bk_T {l : List D} (h : Q (.d (.tup l.reverse)) hp) : opBack (.d (.tup l)) hp Q := h
theorem li_T {l : List D} (h : Q (.ol l) hp) : opB1 .list (.d (.tup l)) hp Q := h
theorem o_addB {b : Bool} {j : Int} (h : Q (.d (.int (PyProof.Rows.b2i b + j))) hp) : opBin .add (.d (.bl b)) (.d (.int j)) hp Q := h
theorem o_subB {b : Bool} {j : Int} (h : Q (.d (.int (PyProof.Rows.b2i b - j))) hp) : opBin .sub (.d (.bl b)) (.d (.int j)) hp Q := h
theorem o_subIB {b : Bool} {j : Int} (h : Q (.d (.int (j - PyProof.Rows.b2i b))) hp) : opBin .sub (.d (.int j)) (.d (.bl b)) hp Q := h
theorem o_mulIB {b : Bool} {j : Int} (h : Q (.d (.int (j * PyProof.Rows.b2i b))) hp) : opBin .mul (.d (.int j)) (.d (.bl b)) hp Q := h
theorem o_negB {b : Bool} (h : Q (.d (.int (- PyProof.Rows.b2i b))) hp) : opNeg (.d (.bl b)) hp Q := h
theorem o_negI {i : Int} (h : Q (.d (.int (-i))) hp) : opNeg (.d (.int i)) hp Q := h
theorem sl_str {z : Str} {a b : Option Int} (hz : z.length ≤ sizeLine) (h : Q (.d (.str (cutS z a b))) hp) : opSl (.d (.str z)) a b hp Q := ⟨hz, h⟩
theorem l_str {z : Str} (hz : z.length ≤ sizeLine) (h : Q (.d (.int z.length)) hp) : opB1 .len (.d (.str z)) hp Q := ⟨hz, h⟩
theorem x_str {z : Str} {i : Int} {c : Nat} (hz : z.length ≤ sizeLine) (e : atI z.cps.toList i = some c) (h : Q (.d (.str ⟨#[c]⟩)) hp) : opIx (.d (.str z)) i hp Q := ⟨hz, by rw [e]; exact h⟩
theorem sk_str {z : Str} {K : Src → HpD → Prop} (h : K ⟨z.cps.toList.map fun c => .str ⟨#[c]⟩, fun _ => True⟩ hp) : srcK K (.d (.str z)) hp := h
theorem r_vl {a : Ex} (h : wr cl co a ev hp (valK fun d hp => Q (.d d) hp) E) : wr cl co (.vl a) ev hp Q E := by simp only [wr]; exact h
theorem r_rf {a : Ex} (h : wr cl co a ev hp (fun x hp => match x with
    | .ol l => ∀ p, hp p = none → Q (.d (.ref p)) (updD hp p (.lst l))
    | _ => False) E) : wr cl co (.rf a) ev hp Q E := by simp only [wr]; exact h
theorem r_o1 {f : O1} {a : Ex} (h : wr cl co a ev hp (fun x hp => opO1 f x hp Q) E) : wr cl co (.o1 f a) ev hp Q E := by simp only [wr]; exact h
theorem r_o2 {f : O2} {a b : Ex} (h : wr cl co a ev hp (fun x hp => recO2 f x hp ∧ wr cl co b ev hp (fun y hp => opO2 f x y hp Q) E) E) : wr cl co (.o2 f a b) ev hp Q E := by simp only [wr]; exact h
theorem r_o3 {f : O3} {a b c : Ex} (h : wr cl co a ev hp (fun x hp => isDict x hp ∧ wr cl co b ev hp (fun y hp => wr cl co c ev hp (valK fun z hp => opO3 f x y z hp Q) E) E) E) : wr cl co (.o3 f a b c) ev hp Q E := by simp only [wr]; exact h
theorem r_dct {ks : List Str} {vs : List Ex} (h : was cl co vs ev hp (fun ds hp => ∀ p, hp p = none → Q (.d (.ref p)) (updD hp p (.dk (List.zipWith (fun k d => (Sum.inr k, d)) ks ds)))) noE) : wr cl co (.dct ks vs) ev hp Q E := by simp only [wr]; exact h
theorem r_tin {ng : Bool} {t : Str} {fs : List (Str × Str)} {a : Ex} (h : wr cl co a ev hp (strK fun s hp => Q (.d (.bl (tinB ng fs s))) hp) E) : wr cl co (.tin ng t fs a) ev hp Q E := by simp only [wr]; exact h
theorem r_tix {t : Str} {fs : List (Str × Str)} {a : Ex} (h : wr cl co a ev hp (strK fun s hp => onSome (fs.lookup s) fun f => Q (.d (.fn f)) hp) E) : wr cl co (.tix t fs a) ev hp Q E := by simp only [wr]; exact h
theorem r_callv {i : Nat} {fl : List Str} {l : List Ex} {f : Str} (e : ev[i]? = some (some (.d (.fn f)))) (hf : f ∈ fl) (h : was cl co l ev hp (fun ds hp => cl f ds hp Q E) E) : wr cl co (.callv i fl l) ev hp Q E := by simp only [wr]; exact ⟨f, e, hf, h⟩
theorem t_str {b : Str} {K : Str → HpD → Prop} (h : K b hp) : strK K (.d (.str b)) hp := h
theorem r_dnewK (h : ∀ p, hp p = none → Q (.d (.ref p)) (updD hp p (.dk []))) : wr cl co (.dnew false) ev hp Q E := by simp only [wr]; exact h
theorem r_dnewT (h : ∀ p, hp p = none → Q (.d (.ref p)) (updD hp p (.dt []))) : wr cl co (.dnew true) ev hp Q E := by simp only [wr]; exact h
variable {K : List D → HpD → Prop}
theorem a_nil (h : K [] hp) : was cl co [] ev hp K E := by simp only [was]; exact h
theorem a_cons {e : Ex} {r : List Ex} (h : wr cl co e ev hp (valK fun x hp => was cl co r ev hp (fun xs hp => K (x :: xs) hp) E) E) : was cl co (e :: r) ev hp K E := by simp only [was]; exact h
theorem q_nil {K : List SV → HpD → Prop} (h : K [] hp) : wps cl co [] ev hp K E := h
theorem q_cons {K : List SV → HpD → Prop} {e : Ex} {r : List Ex} (h : wr cl co e ev hp (fun x hp => wps cl co r ev hp (fun xs hp => K (x :: xs) hp) (eOl x E)) E) : wps cl co (e :: r) ev hp K E := h
/-! looks -/
theorem b_v {i : Nat} {x : SV} {w : SK → Prop} (e : ev[i]? = some (some x)) (h : Q x hp) : borK (.v i) ev hp w Q := slotK_iff.mpr ⟨x, e, h⟩
theorem b_ne {m : Ex} {w : SK → Prop} (e : isV m = false) (h : w Q) : borK m ev hp w Q := by rw [borK_ne e]; exact h
theorem p_non {w : SK → Prop} {K : Option Int → HpD → Prop} (h : K none hp) : prtK .non hp w K := h
theorem p_some {m : Ex} {w : SK → Prop} {K : Option Int → HpD → Prop} (e : nonM m = false) (h : w (intK fun i hp => K (some i) hp)) : prtK m hp w K := by
  cases m <;> first | exact h | cases e
theorem t_bl {b : Bool} {K : Bool → HpD → Prop} (h : K b hp) : truK K (.d (.bl b)) hp := h
theorem t_int {b : Int} {K : Int → HpD → Prop} (h : K b hp) : intK K (.d (.int b)) hp := h
theorem t_d {b : D} {K : D → HpD → Prop} (h : K b hp) : valK K (.d b) hp := h
theorem t_ol {b : List D} {K : D → HpD → Prop} (h : K (.lst b) hp) : valK K (.ol b) hp := h
theorem t_as {b : D} {K : D → Prop} (h : K b) : asD (.d b) K := h
theorem t_asl {b : List D} {K : D → Prop} (h : K (.lst b)) : asD (.ol b) K := h
theorem os {α : Type} {o : Option α} {a : α} {k : α → Prop} (e : o = some a) (h : k a) : onSome o k := by rw [e]; exact h
/-! operators -/
theorem o_add {i j : Int} (h : Q (.d (.int (i + j))) hp) : opBin .add (.d (.int i)) (.d (.int j)) hp Q := h
theorem o_addS {i j : Str} (l : i.length + j.length ≤ sizeLine) (h : Q (.d (.str (i ++ j))) hp) : opBin .add (.d (.str i)) (.d (.str j)) hp Q := ⟨l, h⟩
theorem o_addT {i j : List D} (l : i.length + j.length ≤ sizeLine) (h : Q (.d (.tup (i ++ j))) hp) : opBin .add (.d (.tup i)) (.d (.tup j)) hp Q := ⟨l, h⟩
theorem o_sub {i j : Int} (h : Q (.d (.int (i - j))) hp) : opBin .sub (.d (.int i)) (.d (.int j)) hp Q := h
theorem o_mul {i j : Int} (l : CMulW i j) (h : Q (.d (.int (i * j))) hp) : opBin .mul (.d (.int i)) (.d (.int j)) hp Q := ⟨l, h⟩
theorem o_div {i j : Int} (l : CDivW i j) (h : Q (.d (.int (i / j))) hp) : opBin .fdiv (.d (.int i)) (.d (.int j)) hp Q := ⟨l, h⟩
theorem o_mod {i j : Int} (l : 0 < j) (h : Q (.d (.int (i % j))) hp) : opBin .mod (.d (.int i)) (.d (.int j)) hp Q := ⟨l, h⟩
theorem o_pow {i j : Int} (l : CPow i j) (h : Q (.d (.int (i ^ j.toNat))) hp) : opBin .pow (.d (.int i)) (.d (.int j)) hp Q := ⟨l, h⟩
variable {B : Bool → Prop}
theorem c_eqI {i j : Int} (h : B (decide (i = j))) : opCmp .eq (.d (.int i)) (.d (.int j)) hp B := h
theorem c_eqS {i j : Str} (h : B (decide (i = j))) : opCmp .eq (.d (.str i)) (.d (.str j)) hp B := h
theorem c_neI {i j : Int} (h : B (!decide (i = j))) : opCmp .ne (.d (.int i)) (.d (.int j)) hp B := h
theorem c_neS {i j : Str} (h : B (!decide (i = j))) : opCmp .ne (.d (.str i)) (.d (.str j)) hp B := h
theorem c_ltI {i j : Int} (h : B (decide (i < j))) : opCmp .lt (.d (.int i)) (.d (.int j)) hp B := h
theorem c_leI {i j : Int} (h : B (decide (i ≤ j))) : opCmp .le (.d (.int i)) (.d (.int j)) hp B := h
theorem c_gtI {i j : Int} (h : B (decide (j < i))) : opCmp .gt (.d (.int i)) (.d (.int j)) hp B := h
theorem c_geI {i j : Int} (h : B (decide (j ≤ i))) : opCmp .ge (.d (.int i)) (.d (.int j)) hp B := h
theorem c_nilL {ns : List Int} (h : B (decide (ns = []))) : opCmp .eq (.d (.lst (ns.map .int))) (.ol []) hp B := eq_nil h
theorem x_ref {a : Addr} {l : List D} {i : Int} {y : D} {hp : HpD} (e : atI l i = some y) (h : Q (.d y) (updD hp a (.lst l))) : opIx (.d (.ref a)) i (updD hp a (.lst l)) Q := by
  show onSome (seqD (updD hp a (.lst l)) (.d (.ref a))) _
  have z : seqD (updD hp a (.lst l)) (.d (.ref a)) = some l := by
    show (match updD hp a (.lst l) a with | some (.lst l) => some l | _ => none) = _
    rw [updD_same]
  rw [z]
  show onSome (atI l i) _
  rw [e]; exact h
theorem x_tup {l : List D} {i : Int} {y : D} (e : atI l i = some y) (h : Q (.d y) hp) : opIx (.d (.tup l)) i hp Q := by
  show onSome (atI l i) _
  rw [e]; exact h
theorem x_lst {l : List D} {i : Int} {y : D} (e : atI l i = some y) (h : Q (.d y) hp) : opIx (.d (.lst l)) i hp Q := by
  show onSome (atI l i) _
  rw [e]; exact h
theorem x_ol {l : List D} {i : Int} {y : D} (e : atI l i = some y) (h : Q (.d y) hp) : opIx (.ol l) i hp Q := by
  show onSome (atI l i) _
  rw [e]; exact h
theorem l_lst {l : List D} (h : Q (.d (.int l.length)) hp) : opB1 .len (.d (.lst l)) hp Q := h
theorem l_tup {l : List D} (h : Q (.d (.int l.length)) hp) : opB1 .len (.d (.tup l)) hp Q := h
theorem l_ol {l : List D} (h : Q (.d (.int l.length)) hp) : opB1 .len (.ol l) hp Q := h
theorem tu_ol {l : List D} (h : Q (.d (.tup l)) hp) : opB1 .tuple (.ol l) hp Q := h
theorem n_i {i : Int} {A : Prop} (h : A) : numS (.int i) ∧ A := ⟨trivial, h⟩
theorem n_st {i : Str} {A : Prop} (h : A) : numS (.str i) ∧ A := ⟨trivial, h⟩
theorem an_i {i : Int} {A : Prop} (h : A) : asN (.d (.int i)) ∧ A := ⟨trivial, h⟩
theorem an_s {i : Str} {A : Prop} (h : A) : asN (.d (.str i)) ∧ A := ⟨trivial, h⟩
theorem ap_lt {l : List D} {A : Prop} (h1 : l.length < sizeLine) (h : A) : l.length < sizeLine ∧ A := ⟨h1, h⟩
theorem ap_le {l m : List D} {A : Prop} (h1 : l.length + m.length ≤ sizeLine) (h : A) : l.length + m.length ≤ sizeLine ∧ A := ⟨h1, h⟩
theorem sl_lst {l : List D} {a b : Option Int} (h : Q (.ol (cut l a b)) hp) : opSl (.d (.lst l)) a b hp Q := h
theorem sl_tup {l : List D} {a b : Option Int} (h : Q (.d (.tup (cut l a b))) hp) : opSl (.d (.tup l)) a b hp Q := h
theorem sl_ol {l : List D} {a b : Option Int} (h : Q (.ol (cut l a b)) hp) : opSl (.ol l) a b hp Q := h
theorem mn2 {i j : Int} (h : Q (.d (.int (if j < i then j else i))) hp) : opB2 .min (.d (.int i)) (.d (.int j)) hp Q := h
theorem mx2 {i j : Int} (h : Q (.d (.int (if j > i then j else i))) hp) : opB2 .max (.d (.int i)) (.d (.int j)) hp Q := h
/-! tables -/
theorem rd_dx {x : SV} {A : Prop} (h : A) : recO2 .dx x hp ∧ A := ⟨trivial, h⟩
theorem dx_k {a : Addr} {l : List (Key × D)} {y : SV} {k : Key} {v : D} (e0 : hp a = some (.dk l)) (e1 : keyS y = some k) (e2 : getK l k = some v) (h : Q (.d v) hp) : opO2 .dx (.d (.ref a)) y hp Q := by
  simp only [opO2, dictG, e0, e1]
  show onSome (getK l k) _
  rw [e2]; exact h
theorem dx_t {a : Addr} {l : List (List Key × D)} {y : SV} {k : List Key} {v : D} (e0 : hp a = some (.dt l)) (e1 : keyT y = some k) (e2 : getK l k = some v) (h : Q (.d v) hp) : opO2 .dx (.d (.ref a)) y hp Q := by
  simp only [opO2, dictG, e0, e1]
  show onSome (getK l k) _
  rw [e2]; exact h
theorem dp_k {a : Addr} {l m : List (Key × D)} {y : SV} {k : Key} {v : D} {nx : HpD → Prop} (e0 : hp a = some (.dk l)) (e1 : keyS y = some k) (hz : l.length < sizeLine) (e2 : setK l k v = m) (h : nx (updD hp a (.dk m))) : dictP (.d (.ref a)) y v hp nx := by
  simp only [dictP, e0, e1]
  exact ⟨hz, by rw [e2]; exact h⟩
theorem dp_t {a : Addr} {l m : List (List Key × D)} {y : SV} {k : List Key} {v : D} {nx : HpD → Prop} (e0 : hp a = some (.dt l)) (e1 : keyT y = some k) (hz : l.length < sizeLine) (e2 : setK l k v = m) (h : nx (updD hp a (.dt m))) : dictP (.d (.ref a)) y v hp nx := by
  simp only [dictP, e0, e1]
  exact ⟨hz, by rw [e2]; exact h⟩
theorem isl_r {a : Addr} {l : List D} {A : Prop} (e0 : hp a = some (.lst l)) (h : A) : recO2 .lpop (.d (.ref a)) hp ∧ A := ⟨by simp only [recO2, Mi.isList, e0], h⟩
theorem isd_k {a : Addr} {l : List (Key × D)} {A : Prop} (e0 : hp a = some (.dk l)) (h : A) : isDict (.d (.ref a)) hp ∧ A := ⟨by simp only [Mi.isDict, e0], h⟩
theorem isd_t {a : Addr} {l : List (List Key × D)} {A : Prop} (e0 : hp a = some (.dt l)) (h : A) : isDict (.d (.ref a)) hp ∧ A := ⟨by simp only [Mi.isDict, e0], h⟩
theorem pop_r {a : Addr} {l : List D} {d : D} (e0 : hp a = some (.lst (l ++ [d]))) (h : Q (.d d) (updD hp a (.lst l))) : opO1 .pop (.d (.ref a)) hp Q := by
  simp only [opO1, e0]
  rw [List.getLast?_concat, List.dropLast_concat]
  exact h
theorem popi_r {a : Addr} {l : List D} {i : Int} {n : Nat} {d : D} (e0 : hp a = some (.lst l)) (e1 : ixN l.length i = some n) (e2 : l[n]? = some d) (h : Q (.d d) (updD hp a (.lst (l.eraseIdx n)))) : opO2 .lpop (.d (.ref a)) (.d (.int i)) hp Q := by
  simp only [opO2, e0, e1]
  show onSome (l[n]?) _
  rw [e2]; exact h
/-! branches -/
theorem if_T {A C : Prop} (h : A) : if true = true then A else C := h
theorem if_F {A C : Prop} (h : C) : if false = true then A else C := h
theorem if_D {p : Prop} [Decidable p] {A C : Prop} (h1 : p → A) (h2 : ¬ p → C) : if decide p = true then A else C := by
  by_cases h : p
  · rw [if_pos (decide_eq_true h)]; exact h1 h
  · rw [if_neg (by simpa using h)]; exact h2 h
theorem if_N {p : Prop} [Decidable p] {A C : Prop} (h1 : ¬ p → A) (h2 : p → C) : if (!decide p) = true then A else C := by
  by_cases h : p
  · rw [if_neg (by simpa using h)]; exact h2 h
  · rw [if_pos (by simpa using h)]; exact h1 h
end
/-- the ways of an expression come together -/
theorem r_join {cl : CallT} {co : ConT} {ev : Ev} {hp : HpD} {Q : SK} {E : EK} (hc : CallMono cl) {m : Ex} (P : D → Prop) (h1 : wr cl co m ev hp (fun x hp' => ∃ d, x = .d d ∧ hp' = hp ∧ P d) noE) (h2 : ∀ d, P d → Q (.d d) hp) : wr cl co m ev hp Q E :=
  wr_mono hc m ev hp _ _ _ _ (fun x hp' ⟨d, e1, e2, p⟩ => by subst e1; subst e2; exact h2 d p) (fun _ _ _ z => z.elim) h1
theorem look_cons {x k : Str} {d v : D} {l : List (Str × D)} (h : ((k, v) :: l).lookup x = some d) : (x = k ∧ d = v) ∨ l.lookup x = some d := by
  rw [List.lookup_cons] at h
  by_cases e : x = k
  · subst e
    simp at h
    exact .inl ⟨rfl, h.symm⟩
  · have : (x == k) = false := by simpa using e
    rw [this] at h
    exact .inr h
end Mi

namespace Mi
open PySem PySem.Spec PyProof.Rows L2

/-! ### what is shown -/
def SmallD (w dp : Nat) (d : PyData) : Prop := d.depth ≤ dp ∧ d.showable = true ∧ d.leavesShort 2000 = true ∧ d.weight ≤ w
def SmallL (w dp : Nat) (d : List PyData) : Prop := PyData.depthAll d ≤ dp ∧ PyData.showableAll d = true ∧ PyData.leavesShortAll 2000 d = true ∧ PyData.weightAll d ≤ w
/-- it may be shown -/
def Shw (w dp : Nat) (x : D) : Prop := ∃ d, x.pd = some d ∧ SmallD w dp d
def Shws (w dp : Nat) (l : List D) : Prop := ∃ d, D.pds l = some d ∧ SmallL w dp d
theorem Shw.le {w w' dp dp' : Nat} {x : D} (h : Shw w dp x) (a : w ≤ w') (b : dp ≤ dp') : Shw w' dp' x := by
  obtain ⟨d, e, h1, h2, h3, h4⟩ := h
  exact ⟨d, e, by omega, h2, h3, by omega⟩
theorem Shw.non : Shw 0 0 .non := ⟨.none, rfl, by decide, rfl, rfl, by decide⟩
theorem Shw.bl (b : Bool) : Shw 0 0 (.bl b) := ⟨.bool b, rfl, by simp [PyData.depth], rfl, rfl, by simp [PyData.weight]⟩
theorem Shw.int {n : Nat} {i : Int} (h : Bd n i) (hn : n ≤ 1900) : Shw (n + 1) 0 (.int i) := by
  have hl := h.log
  refine ⟨.int i, rfl, by simp [PyData.depth], ?_, ?_, ?_⟩
  · simp only [PyData.showable]; exact decide_eq_true (by omega)
  · simp only [PyData.leavesShort]
    have e := int_text_length_le (a := i) (k := 1950) (by decide) (by omega)
    refine decide_eq_true ?_
    show (Str.ofString (toString i)).length ≤ 2000
    rw [PySem.ofString_length]; omega
  · simp only [PyData.weight]
    split <;> omega
theorem Shws.nil : Shws 0 0 [] := ⟨[], rfl, by simp [PyData.depthAll], rfl, rfl, by simp [PyData.weightAll]⟩
theorem Shws.cons {w1 w2 dp : Nat} {x : D} {l : List D} (h : Shw w1 dp x) (g : Shws w2 dp l) : Shws (w1 + 1 + w2) dp (x :: l) := by
  obtain ⟨d, e, h1, h2, h3, h4⟩ := h
  obtain ⟨ds, e2, g1, g2, g3, g4⟩ := g
  refine ⟨d :: ds, ?_, ?_, ?_, ?_, ?_⟩
  · show (match D.pd x, D.pds l with | some a, some b => some (a :: b) | _, _ => none) = _
    rw [e, e2]
  · simp only [PyData.depthAll]; omega
  · simp only [PyData.showableAll, h2, g2, Bool.and_self]
  · simp only [PyData.leavesShortAll, h3, g3, Bool.and_self]
  · simp only [PyData.weightAll]; omega
theorem Shws.le {w w' dp dp' : Nat} {l : List D} (h : Shws w dp l) (a : w ≤ w') (b : dp ≤ dp') : Shws w' dp' l := by
  obtain ⟨d, e, h1, h2, h3, h4⟩ := h
  exact ⟨d, e, by omega, h2, h3, by omega⟩
theorem Shws.tup {w dp : Nat} {l : List D} (h : Shws w dp l) : Shw w (dp + 1) (.tup l) := by
  obtain ⟨d, e, h1, h2, h3, h4⟩ := h
  refine ⟨.tuple d, by show (D.pds l).map _ = _; rw [e]; rfl, ?_, ?_, ?_, ?_⟩
  · simp only [PyData.depth]; omega
  · simp only [PyData.showable]; exact h2
  · simp only [PyData.leavesShort]; exact h3
  · simp only [PyData.weight]; exact h4
theorem Shws.lst {w dp : Nat} {l : List D} (h : Shws w dp l) : Shw w (dp + 1) (.lst l) := by
  obtain ⟨d, e, h1, h2, h3, h4⟩ := h
  refine ⟨.list d, by show (D.pds l).map _ = _; rw [e]; rfl, ?_, ?_, ?_, ?_⟩
  · simp only [PyData.depth]; omega
  · simp only [PyData.showable]; exact h2
  · simp only [PyData.leavesShort]; exact h3
  · simp only [PyData.weight]; exact h4
/-- the text of a value -/
def reprD (x : D) : Str := match x.pd with
  | some d => d.shown
  | none => default
theorem rp_d {w dp : Nat} {x : D} {hp : HpD} {Q : SK} (s : Shw w dp x) (hw : w ≤ 8000) (hd : dp ≤ 64) (hr : ∀ a, x ≠ .ref a) (h : Q (.d (.str (reprD x))) hp) : opB1 .repr (.d x) hp Q := by
  obtain ⟨d, e, h1, h2, h3, h4⟩ := s
  have e1 : svPd hp (.d x) = some d := by
    cases x <;> first | exact e | exact (hr _ rfl).elim
  have e2 : reprD x = d.shown := by unfold reprD; rw [e]
  rw [e2] at h
  refine onSome_iff.mpr ⟨d, e1, by omega, h2, ?_, h⟩
  have := PyData.shown_le 2000 (by decide) d h3
  have z : sizeLine = 16777216 := sizeLine_eq
  rw [z]
  omega
theorem rp_ol {w dp : Nat} {l : List D} {hp : HpD} {Q : SK} (s : Shws w dp l) (hw : w ≤ 8000) (hd : dp ≤ 63) (h : Q (.d (.str (reprD (.lst l)))) hp) : opB1 .repr (.ol l) hp Q := by
  obtain ⟨d, e, h1, h2, h3, h4⟩ := s.lst
  have e1 : svPd hp (.ol l) = some d := e
  have e2 : reprD (.lst l) = d.shown := by unfold reprD; rw [e]
  rw [e2] at h
  refine onSome_iff.mpr ⟨d, e1, by omega, h2, ?_, h⟩
  have := PyData.shown_le 2000 (by decide) d h3
  have z : sizeLine = 16777216 := sizeLine_eq
  rw [z]
  omega
end Mi

namespace Mi
open PySem PySem.Spec PyProof.Rows L2

/-! ### loops -/
theorem loop_inv {step : D → Ev → HpD → (Ev → HpD → Prop) → Prop} {g : HpD → Prop} {k : Ev → HpD → Prop} (hs : ∀ x ev hp k k', (∀ ev hp, k ev hp → k' ev hp) → step x ev hp k → step x ev hp k') (J : Nat → Ev → HpD → Prop) (hg : ∀ hp, g hp) :
    ∀ (l : List D) (j : Nat) (ev : Ev) (hp : HpD), J j ev hp → (∀ i x ev hp, l[i]? = some x → J (j + i) ev hp → step x ev hp (J (j + i + 1))) → (∀ ev hp, J (j + l.length) ev hp → k ev hp) → loopL step g l ev hp k
  | [], j, ev, hp, h0, _, he => ⟨hg hp, he ev hp h0⟩
  | x :: r, j, ev, hp, h0, hst, he => by
    refine ⟨hg hp, hs x ev hp _ _ (fun ev' hp' h' => ?_) (hst 0 x ev hp rfl h0)⟩
    refine loop_inv hs J hg r (j + 1) ev' hp' h' (fun i y ev hp e h => ?_) (fun ev hp h => he ev hp ?_)
    · have h2 := hst (i + 1) y ev hp (by simpa using e) (by rw [show j + (i + 1) = j + 1 + i by omega]; exact h)
      rw [show j + (i + 1) + 1 = j + 1 + i + 1 by omega] at h2
      exact h2
    · rw [List.length_cons, show j + (r.length + 1) = j + 1 + r.length by omega]; exact h
theorem comp_inv {step : D → HpD → (Option D → HpD → Prop) → Prop} {g : HpD → Prop} {k : List D → HpD → Prop} (hs : ∀ x hp k k', (∀ o hp, k o hp → k' o hp) → step x hp k → step x hp k') (J : Nat → List D → HpD → Prop) (hg : ∀ hp, g hp) :
    ∀ (l : List D) (j : Nat) (acc : List D) (hp : HpD), J j acc hp → (∀ i x acc hp, l[i]? = some x → J (j + i) acc hp → step x hp fun o hp' => match o with | none => J (j + i + 1) acc hp' | some y => acc.length < sizeLine ∧ J (j + i + 1) (acc ++ [y]) hp') → (∀ acc hp, J (j + l.length) acc hp → k acc hp) → compL step g l acc hp k
  | [], j, acc, hp, h0, _, he => ⟨hg hp, he acc hp h0⟩
  | x :: r, j, acc, hp, h0, hst, he => by
    have nxt : ∀ acc hp', J (j + 1) acc hp' → compL step g r acc hp' k := fun acc hp' h' => by
      refine comp_inv hs J hg r (j + 1) acc hp' h' (fun i y ac2 hp e h => ?_) (fun ac2 hp h => he ac2 hp ?_)
      · have h2 := hst (i + 1) y ac2 hp (by simpa using e) (by rw [show j + (i + 1) = j + 1 + i by omega]; exact h)
        rw [show j + (i + 1) + 1 = j + 1 + i + 1 by omega] at h2
        exact h2
      · rw [List.length_cons, show j + (r.length + 1) = j + 1 + r.length by omega]; exact h
    refine ⟨hg hp, hs x hp _ _ (fun o hp' h' => ?_) (hst 0 x acc hp rfl h0)⟩
    cases o with
    | none => exact nxt acc hp' h'
    | some y => exact ⟨h'.1, nxt _ hp' h'.2⟩
section
variable {cl : CallT} {co : ConT} {ev : Ev} {hp : HpD} {Q : SK} {E : EK} {nx bk ct : Ev → HpD → Prop} {rt : SK} {ex : Str → List (Str × D) → Ev → HpD → Prop}
/-- a for loop, by a word about the turn -/
theorem w_for (hc : CallMono cl) {t : Tg} {it : It} {b : List Sm} (h : wi cl co it false ev hp (fun s hp => (∀ hp, s.g hp) ∧ ∃ J : Nat → Ev → HpD → Prop, J 0 ev hp ∧
      (∀ i x ev hp, s.l[i]? = some x → J i ev hp → wg cl co t (.d x) ev hp (fun ev hp => wss cl co b ev hp ⟨J (i + 1), rt, nx, J (i + 1), ex⟩) (fun ev c fs hp => ex c fs ev hp)) ∧ ∀ ev hp, J s.l.length ev hp → nx ev hp) (fun c fs hp => ex c fs ev hp)) :
    ws cl co (.fr t it b) ev hp ⟨nx, rt, bk, ct, ex⟩ := by
  refine w_fr (wi_mono hc it false ev hp _ _ _ _ ?_ (fun _ _ _ z => z) h)
  rintro s hp1 ⟨hg, J, h0, hst, he⟩
  refine loop_inv ?hs J hg s.l 0 ev hp1 h0 (fun i x ev hp e h => ?_) (fun ev hp h => he ev hp ?_)
  case hs =>
    intro x ev hp k k' hk q
    refine wg_mono hc t _ ev hp _ _ _ _ (fun ev hp q => wss_mono hc b ev hp _ _ ?_ q) (fun _ _ _ _ z => z) q
    exact ⟨hk, fun _ _ q => q, fun _ _ q => q, hk, fun _ _ _ _ q => q⟩
  · rw [Nat.zero_add] at h ⊢
    exact hst i x ev hp e h
  · rw [Nat.zero_add] at h
    exact h
/-- a list comprehension, by a word about the turn -/
theorem r_cmpr (hc : CallMono cl) {m c : Ex} {tg own : List Nat} {it : It} (ho : noOl ev own = true) (h : wi cl co it true ev hp (fun s hp => (∀ hp, s.g hp) ∧ ∃ J : Nat → List D → HpD → Prop, J 0 [] hp ∧
      (∀ i x acc hp, s.l[i]? = some x → J i acc hp → ∃ ev', tgSet tg x (wipeD ev own) = some ev' ∧ wr cl co c ev' hp (truK fun b hp => if b = true then wr cl co m ev' hp (valK fun y hp => acc.length < sizeLine ∧ J (i + 1) (acc ++ [y]) hp) noE else J (i + 1) acc hp) noE) ∧
      ∀ acc hp, J s.l.length acc hp → Q (.ol acc) hp) E) : wr cl co (.comp m tg it c own) ev hp Q E := by
  refine r_comp ho (wi_mono hc it true ev hp _ _ _ _ ?_ (fun _ _ _ z => z) h)
  rintro s hp1 ⟨hg, J, h0, hst, he⟩
  refine comp_inv ?hs J hg s.l 0 [] hp1 h0 (fun i x acc hp e h => ?_) (fun ev hp h => he ev hp ?_)
  case hs =>
    intro x hp k k' hk q
    refine onSome_mono q fun ev' q => wr_mono hc c ev' hp _ _ _ _ (truK_mono fun b hp q => ?_) (fun _ _ _ z => z) q
    split at q
    · rename_i z; rw [if_pos z]; exact wr_mono hc m ev' hp _ _ _ _ (valK_mono fun y hp q => hk _ _ q) (fun _ _ _ z => z) q
    · rename_i z; rw [if_neg z]; exact hk _ _ q
  · rw [Nat.zero_add] at h ⊢
    obtain ⟨ev', e', q⟩ := hst i x acc hp e h
    refine onSome_iff.mpr ⟨ev', e', wr_mono hc c ev' hp _ _ _ _ (truK_mono fun b hp q => ?_) (fun _ _ _ z => z) q⟩
    cases b with
    | true => exact q
    | false => exact q
  · rw [Nat.zero_add] at h
    exact h
theorem i_rg1D {b : Bool} {a : Ex} {K : Src → HpD → Prop} (h : wr cl co a ev hp (intK fun n hp => (-(2 ^ 62) ≤ n ∧ n < 2 ^ 62) ∧ K ⟨rangeD 0 n.toNat, fun _ => True⟩ hp) E) : wi cl co (.rg1 a) b ev hp K E := by simp only [wi]; exact h
theorem i_rg2D {b : Bool} {a c : Ex} {K : Src → HpD → Prop} (h : wr cl co a ev hp (intK fun i hp => wr cl co c ev hp (intK fun j hp => (-(2 ^ 62) ≤ i ∧ i < 2 ^ 62 ∧ -(2 ^ 62) ≤ j ∧ j < 2 ^ 62) ∧ K ⟨rangeD i (j - i).toNat, fun _ => True⟩ hp) E) E) : wi cl co (.rg2 a c) b ev hp K E := by simp only [wi]; exact h
theorem i_rg3D {b : Bool} {a c : Ex} {K : Src → HpD → Prop} (h : wr cl co a ev hp (intK fun i hp => wr cl co c ev hp (intK fun j hp => (-(2 ^ 61) ≤ i ∧ i < 2 ^ 61 ∧ -(2 ^ 61) ≤ j ∧ j < 2 ^ 61) ∧ K ⟨downD i (i - j).toNat, fun _ => True⟩ hp) E) E) : wi cl co (.rg3 a c) b ev hp K E := by simp only [wi]; exact h
theorem i_e {a : Ex} {K : Src → HpD → Prop} (h : wr cl co a ev hp (srcK K) E) : wi cl co (.e a) false ev hp K E := by simp only [wi, borB]; exact h
theorem i_eB {a : Ex} {K : Src → HpD → Prop} (h : borK a ev hp (fun Q => wr cl co a ev hp Q E) (srcK K)) : wi cl co (.e a) true ev hp K E := by simp only [wi, borB]; exact h
theorem i_enF {a : Ex} {K : Src → HpD → Prop} (h : wr cl co a ev hp (fun x hp => onSome (seqD hp x) fun l => K ⟨enumD 0 l, grd l x⟩ hp) E) : wi cl co (.en a) false ev hp K E := by simp only [wi, borB]; exact h
theorem i_enB {a : Ex} {K : Src → HpD → Prop} (h : borK a ev hp (fun Q => wr cl co a ev hp Q E) fun x hp => onSome (seqD hp x) fun l => K ⟨enumD 0 l, grd l x⟩ hp) : wi cl co (.en a) true ev hp K E := by simp only [wi, borB]; exact h
theorem e_tupS {l : List D} {K : Src → HpD → Prop} (h : K ⟨enumD 0 l, fun _ => True⟩ hp) : onSome (seqD hp (.d (.tup l))) fun m => K ⟨enumD 0 m, grd m (.d (.tup l))⟩ hp := h
theorem e_olS {l : List D} {K : Src → HpD → Prop} (h : K ⟨enumD 0 l, fun _ => True⟩ hp) : onSome (seqD hp (.ol l)) fun m => K ⟨enumD 0 m, grd m (.ol l)⟩ hp := h
theorem s_tup {l : List D} {K : Src → HpD → Prop} (h : K ⟨l, fun _ => True⟩ hp) : srcK K (.d (.tup l)) hp := h
theorem s_lst {l : List D} {K : Src → HpD → Prop} (h : K ⟨l, fun _ => True⟩ hp) : srcK K (.d (.lst l)) hp := h
theorem s_ol {l : List D} {K : Src → HpD → Prop} (h : K ⟨l, fun _ => True⟩ hp) : srcK K (.ol l) hp := h
end
theorem cut_whole {α : Type} {l : List α} {n : Nat} (h : l.length ≤ n) : cut l none (some (n : Int)) = l := by
  refine cut_all l ⟨rfl, ?_⟩
  rw [HT.sIx_nat]
  omega
end Mi

open PySem PySem.Spec PyProof.Rows L2 Mi in
local macro_rules | `(tactic| expose_names) => `(tactic| (repeat (first | with_reducible refine w_rais ?_ | with_reducible refine r_calld ?_ | with_reducible refine w_nil ?_ | with_reducible refine w_cons ?_ | with_reducible refine w_asg ?_ | with_reducible refine w_par ?_ | with_reducible refine w_aug ?_ | with_reducible refine w_augS ?_ | with_reducible refine w_expr ?_ | with_reducible refine w_app ?_ | with_reducible refine w_ext ?_ | with_reducible refine w_ite ?_ | with_reducible refine w_ret ?_ | with_reducible refine w_retN ?_ | with_reducible refine w_brk ?_ | with_reducible refine w_cont ?_ | with_reducible refine w_pass ?_ | with_reducible refine g_s ?_ | with_reducible refine gs_n ?_ | with_reducible refine gs_c ?_ | with_reducible refine r_int ?_ | with_reducible refine r_bl ?_ | with_reducible refine r_non ?_ | with_reducible refine r_str ?_ | with_reducible refine r_tup ?_ | with_reducible refine r_lst ?_ | with_reducible refine r_bin ?_ | with_reducible refine r_neg ?_ | with_reducible refine r_no ?_ | with_reducible refine r_an ?_ | with_reducible refine r_oo ?_ | with_reducible refine r_ite ?_ | with_reducible refine r_cmp ?_ | with_reducible refine r_cmp2 ?_ | with_reducible refine r_ix ?_ | with_reducible refine r_sl ?_ | with_reducible refine r_call ?_ | with_reducible refine r_b1 ?_ | with_reducible refine r_b2 ?_ | with_reducible refine r_isi ?_ | with_reducible refine r_rf ?_ | with_reducible refine r_vl ?_ | with_reducible refine r_back ?_ | with_reducible refine r_m1 ?_ | with_reducible refine r_m0 ?_ | with_reducible refine r_o1 ?_ | with_reducible refine r_o2 ?_ | with_reducible refine r_o3 ?_ | with_reducible refine r_dct ?_ | with_reducible refine rd_dx ?_ | with_reducible refine r_tin ?_ | with_reducible refine r_tix ?_ | with_reducible refine t_str ?_ | with_reducible refine g_ds ?_ | with_reducible refine bk_T ?_ | with_reducible refine li_T ?_ | with_reducible refine o_addB ?_ | with_reducible refine o_subB ?_ | with_reducible refine o_subIB ?_ | with_reducible refine o_mulIB ?_ | with_reducible refine o_negB ?_ | with_reducible refine o_negI ?_ | with_reducible refine a_nil ?_ | with_reducible refine a_cons ?_ | with_reducible refine q_nil ?_ | with_reducible refine q_cons ?_ | with_reducible refine p_non ?_ | with_reducible refine t_bl ?_ | with_reducible refine t_int ?_ | with_reducible refine t_d ?_ | with_reducible refine t_ol ?_ | with_reducible refine t_as ?_ | with_reducible refine t_asl ?_ | with_reducible refine o_add ?_ | with_reducible refine o_sub ?_ | with_reducible refine c_eqI ?_ | with_reducible refine c_eqS ?_ | with_reducible refine c_neI ?_ | with_reducible refine c_neS ?_ | with_reducible refine c_ltI ?_ | with_reducible refine c_leI ?_ | with_reducible refine c_gtI ?_ | with_reducible refine c_geI ?_ | with_reducible refine l_lst ?_ | with_reducible refine l_tup ?_ | with_reducible refine l_ol ?_ | with_reducible refine tu_ol ?_ | with_reducible refine sl_lst ?_ | with_reducible refine sl_tup ?_ | with_reducible refine sl_ol ?_ | with_reducible refine mn2 ?_ | with_reducible refine mx2 ?_ | with_reducible refine n_i ?_ | with_reducible refine n_st ?_ | with_reducible refine an_i ?_ | with_reducible refine an_s ?_ | with_reducible refine if_T ?_ | with_reducible refine if_F ?_ | with_reducible refine c_nilL ?_ | ((with_reducible refine w_fz rfl ?_); try dsimp only [List.set]) | ((with_reducible refine g_n ?_); try dsimp only [List.set]) | with_reducible refine g_t rfl ?_ | with_reducible refine w_retV (slotK_iff.mpr ⟨_, rfl, ?_⟩) | with_reducible refine r_vd rfl ?_ | with_reducible refine b_v rfl ?_ | with_reducible refine b_ne rfl ?_ | with_reducible refine p_some rfl ?_ | with_reducible refine slotK_iff.mpr ⟨_, rfl, ?_⟩ | with_reducible refine m_r rfl ?_ | with_reducible refine m_z rfl ?_ | (with_reducible refine And.intro updD_same ?_; try simp only [updD_updD, List.set, Int.reduceToNat]) | with_reducible refine x_ref rfl ?_ | with_reducible refine x_tup rfl ?_ | with_reducible refine x_lst rfl ?_ | with_reducible refine x_ol rfl ?_ | ((with_reducible refine os rfl ?_); try dsimp only [List.set]) | with_reducible refine ⟨trivial, ?_⟩ | ((with_reducible refine ap_lt ?s ?_); (case s => first | assumption | (simp only [List.length_cons, List.length_nil, List.length_append]; decide)); try dsimp only [List.set, List.cons_append, List.nil_append]) | ((with_reducible refine ap_le ?s ?_); (case s => first | assumption | (simp only [List.length_cons, List.length_nil, List.length_append]; decide)); try dsimp only [List.set, List.cons_append, List.nil_append]) | ((with_reducible refine o_mul ?s ?_); case s => first | assumption | exact Bd.cmul (by first | assumption | exact Bd.mod (a := 40) (by decide) | exact Bd.const (a := 40) (by decide) | exact Bd.mul (by first | assumption | exact Bd.const (a := 40) (by decide)) (by assumption) | exact Bd.add (by first | assumption | exact Bd.mod (a := 40) (by decide)) (by first | assumption | exact Bd.mod (a := 40) (by decide))) (by first | assumption | exact Bd.mod (a := 40) (by decide) | exact Bd.const (a := 40) (by decide) | exact Bd.mul (by first | assumption | exact Bd.const (a := 40) (by decide)) (by assumption) | exact Bd.add (by first | assumption | exact Bd.mod (a := 40) (by decide)) (by first | assumption | exact Bd.mod (a := 40) (by decide))) (by omega)) | ((with_reducible refine o_div ?s ?_); case s => first | assumption | exact Bd.cdiv (by first | assumption | exact Bd.mod (a := 40) (by decide) | exact Bd.const (a := 40) (by decide) | exact Bd.mul (by first | assumption | exact Bd.const (a := 40) (by decide)) (by assumption) | exact Bd.add (by first | assumption | exact Bd.mod (a := 40) (by decide)) (by first | assumption | exact Bd.mod (a := 40) (by decide))) (by first | assumption | decide | omega) (by omega)) | ((with_reducible refine o_mod ?s ?_); case s => first | assumption | decide | omega) | ((with_reducible refine o_pow ?s ?_); case s => exact ⟨by decide, by decide, by decide⟩))))
open PySem PySem.Spec PyProof.Rows L2 Mi in
local macro_rules | `(tactic| bv_omega) => `(tactic| (repeat (first | with_reducible refine w_rais ?_ | with_reducible refine r_calld ?_ | with_reducible refine w_nil ?_ | with_reducible refine w_asg ?_ | with_reducible refine w_par ?_ | with_reducible refine w_aug ?_ | with_reducible refine w_augS ?_ | with_reducible refine w_expr ?_ | with_reducible refine w_app ?_ | with_reducible refine w_ext ?_ | with_reducible refine w_ite ?_ | with_reducible refine w_ret ?_ | with_reducible refine w_retN ?_ | with_reducible refine w_brk ?_ | with_reducible refine w_cont ?_ | with_reducible refine w_pass ?_ | with_reducible refine g_s ?_ | with_reducible refine gs_n ?_ | with_reducible refine gs_c ?_ | with_reducible refine r_int ?_ | with_reducible refine r_bl ?_ | with_reducible refine r_non ?_ | with_reducible refine r_str ?_ | with_reducible refine r_tup ?_ | with_reducible refine r_lst ?_ | with_reducible refine r_bin ?_ | with_reducible refine r_neg ?_ | with_reducible refine r_no ?_ | with_reducible refine r_an ?_ | with_reducible refine r_oo ?_ | with_reducible refine r_ite ?_ | with_reducible refine r_cmp ?_ | with_reducible refine r_cmp2 ?_ | with_reducible refine r_ix ?_ | with_reducible refine r_sl ?_ | with_reducible refine r_call ?_ | with_reducible refine r_b1 ?_ | with_reducible refine r_b2 ?_ | with_reducible refine r_isi ?_ | with_reducible refine r_rf ?_ | with_reducible refine r_vl ?_ | with_reducible refine r_back ?_ | with_reducible refine r_m1 ?_ | with_reducible refine r_m0 ?_ | with_reducible refine r_o1 ?_ | with_reducible refine r_o2 ?_ | with_reducible refine r_o3 ?_ | with_reducible refine r_dct ?_ | with_reducible refine rd_dx ?_ | with_reducible refine r_tin ?_ | with_reducible refine r_tix ?_ | with_reducible refine t_str ?_ | with_reducible refine g_ds ?_ | with_reducible refine bk_T ?_ | with_reducible refine li_T ?_ | with_reducible refine o_addB ?_ | with_reducible refine o_subB ?_ | with_reducible refine o_subIB ?_ | with_reducible refine o_mulIB ?_ | with_reducible refine o_negB ?_ | with_reducible refine o_negI ?_ | with_reducible refine a_nil ?_ | with_reducible refine a_cons ?_ | with_reducible refine q_nil ?_ | with_reducible refine q_cons ?_ | with_reducible refine p_non ?_ | with_reducible refine t_bl ?_ | with_reducible refine t_int ?_ | with_reducible refine t_d ?_ | with_reducible refine t_ol ?_ | with_reducible refine t_as ?_ | with_reducible refine t_asl ?_ | with_reducible refine o_add ?_ | with_reducible refine o_sub ?_ | with_reducible refine c_eqI ?_ | with_reducible refine c_eqS ?_ | with_reducible refine c_neI ?_ | with_reducible refine c_neS ?_ | with_reducible refine c_ltI ?_ | with_reducible refine c_leI ?_ | with_reducible refine c_gtI ?_ | with_reducible refine c_geI ?_ | with_reducible refine l_lst ?_ | with_reducible refine l_tup ?_ | with_reducible refine l_ol ?_ | with_reducible refine tu_ol ?_ | with_reducible refine sl_lst ?_ | with_reducible refine sl_tup ?_ | with_reducible refine sl_ol ?_ | with_reducible refine mn2 ?_ | with_reducible refine mx2 ?_ | with_reducible refine n_i ?_ | with_reducible refine n_st ?_ | with_reducible refine an_i ?_ | with_reducible refine an_s ?_ | with_reducible refine if_T ?_ | with_reducible refine if_F ?_ | with_reducible refine c_nilL ?_ | ((with_reducible refine w_fz rfl ?_); try dsimp only [List.set]) | ((with_reducible refine g_n ?_); try dsimp only [List.set]) | with_reducible refine g_t rfl ?_ | with_reducible refine w_retV (slotK_iff.mpr ⟨_, rfl, ?_⟩) | with_reducible refine r_vd rfl ?_ | with_reducible refine b_v rfl ?_ | with_reducible refine b_ne rfl ?_ | with_reducible refine p_some rfl ?_ | with_reducible refine slotK_iff.mpr ⟨_, rfl, ?_⟩ | with_reducible refine m_r rfl ?_ | with_reducible refine m_z rfl ?_ | (with_reducible refine And.intro updD_same ?_; try simp only [updD_updD, List.set, Int.reduceToNat]) | with_reducible refine x_ref rfl ?_ | with_reducible refine x_tup rfl ?_ | with_reducible refine x_lst rfl ?_ | with_reducible refine x_ol rfl ?_ | ((with_reducible refine os rfl ?_); try dsimp only [List.set]) | with_reducible refine ⟨trivial, ?_⟩ | ((with_reducible refine ap_lt ?s ?_); (case s => first | assumption | (simp only [List.length_cons, List.length_nil, List.length_append]; decide)); try dsimp only [List.set, List.cons_append, List.nil_append]) | ((with_reducible refine ap_le ?s ?_); (case s => first | assumption | (simp only [List.length_cons, List.length_nil, List.length_append]; decide)); try dsimp only [List.set, List.cons_append, List.nil_append]) | ((with_reducible refine o_mul ?s ?_); case s => first | assumption | exact Bd.cmul (by first | assumption | exact Bd.mod (a := 40) (by decide) | exact Bd.const (a := 40) (by decide) | exact Bd.mul (by first | assumption | exact Bd.const (a := 40) (by decide)) (by assumption) | exact Bd.add (by first | assumption | exact Bd.mod (a := 40) (by decide)) (by first | assumption | exact Bd.mod (a := 40) (by decide))) (by first | assumption | exact Bd.mod (a := 40) (by decide) | exact Bd.const (a := 40) (by decide) | exact Bd.mul (by first | assumption | exact Bd.const (a := 40) (by decide)) (by assumption) | exact Bd.add (by first | assumption | exact Bd.mod (a := 40) (by decide)) (by first | assumption | exact Bd.mod (a := 40) (by decide))) (by omega)) | ((with_reducible refine o_div ?s ?_); case s => first | assumption | exact Bd.cdiv (by first | assumption | exact Bd.mod (a := 40) (by decide) | exact Bd.const (a := 40) (by decide) | exact Bd.mul (by first | assumption | exact Bd.const (a := 40) (by decide)) (by assumption) | exact Bd.add (by first | assumption | exact Bd.mod (a := 40) (by decide)) (by first | assumption | exact Bd.mod (a := 40) (by decide))) (by first | assumption | decide | omega) (by omega)) | ((with_reducible refine o_mod ?s ?_); case s => first | assumption | decide | omega) | ((with_reducible refine o_pow ?s ?_); case s => exact ⟨by decide, by decide, by decide⟩))))
namespace Mi
open PySem PySem.Spec PyProof.Rows L2
/-! ### fractions as rationals -/
def gc (a b : Int) : Int := (Int.gcd a b : Int)
theorem gc_step {a b : Int} (ha : 0 ≤ a) (hb : 0 < b) : gc b (a % b) = gc a b := by
  obtain ⟨m, rfl⟩ := Int.eq_ofNat_of_zero_le ha
  obtain ⟨n, rfl⟩ := Int.eq_ofNat_of_zero_le (Int.le_of_lt hb)
  unfold gc
  rw [← Int.natCast_emod, Int.gcd_natCast_natCast, Int.gcd_natCast_natCast, Nat.gcd_comm n, ← Nat.gcd_rec, Nat.gcd_comm]
theorem gc_zero {a : Int} (ha : 0 ≤ a) : gc a 0 = a := by
  unfold gc
  rw [Int.gcd_zero_right]
  omega
theorem gc_pos {a b : Int} (hb : 0 < b) : 0 < gc a b := by
  unfold gc
  have : 0 < Int.gcd a b := Int.gcd_pos_of_ne_zero_right a (by omega)
  omega
theorem gc_le {a b : Int} (hb : 0 < b) : gc a b ≤ b := by
  unfold gc
  exact Int.le_of_dvd hb (Int.gcd_dvd_right a b)
theorem gc_bd {n : Nat} {a b : Int} (hb : 0 < b) (h : Bd n b) : Bd n (gc a b) := ⟨Int.le_of_lt (gc_pos hb), Int.lt_of_le_of_lt (gc_le hb) h.2⟩
abbrev fr (p q : Int) : D := .tup [.int p, .int q]
def cutD (u v : Int) : D := fr (u / gc u v) (v / gc u v)
/-- a fraction, as the program has it -/
def frR (x : Rat) : D := fr x.num (x.den : Int)
def qd (a b : Int) : Rat := (a : Rat) / (b : Rat)
theorem qd_mk (a : Int) (n : Nat) : qd a (n : Int) = mkRat a n := by
  rw [Rat.mkRat_eq_div]; unfold qd; rw [Rat.intCast_natCast]
theorem cut_eq {a b : Int} (hb : 0 < b) : cutD a b = frR (qd a b) := by
  obtain ⟨n, rfl⟩ := Int.eq_ofNat_of_zero_le (Int.le_of_lt hb)
  have hn : n ≠ 0 := by omega
  rw [qd_mk]
  unfold cutD frR gc
  rw [Rat.mkRat_def, dif_neg hn, Rat.normalize_eq]
  have e : Int.gcd a (n : Int) = a.natAbs.gcd n := by rw [Int.gcd_eq_natAbs_gcd_natAbs]; rfl
  rw [e]
  show fr _ _ = fr _ _
  congr 1
/-- a fraction of so many bits -/
structure Gd (n : Nat) (x : Rat) : Prop where
  pos : 0 ≤ x
  num : Bd n x.num
  den : Bd n (x.den : Int)
theorem Gd.le {m n : Nat} {x : Rat} (h : Gd m x) (l : m ≤ n) : Gd n x := ⟨h.pos, h.num.le l, h.den.le l⟩
theorem den0 (x : Rat) : (0 : Int) < (x.den : Int) := by have := x.den_pos; omega
theorem qd_num {n : Nat} {a b : Int} (ha : Bd n a) (hb : Bd n b) (h0 : 0 < b) : Gd n (qd a b) := by
  have e := cut_eq (a := a) h0
  have pg := gc_pos (a := a) h0
  unfold cutD frR at e
  injection e with e
  injection e with e1 e2
  injection e2 with e2 _
  injection e1 with e1
  injection e2 with e2
  have h1 : Bd n (qd a b).num := by rw [← e1]; exact ha.div (Int.le_of_lt pg)
  refine ⟨Rat.num_nonneg.mp h1.1, h1, ?_⟩
  rw [← e2]; exact hb.div (Int.le_of_lt pg)
theorem qd_self (x : Rat) : qd x.num (x.den : Int) = x := by
  rw [qd_mk]
  exact Rat.mkRat_self x
theorem castNe {q : Int} (h : 0 < q) : (q : Rat) ≠ 0 := by
  intro z
  have := Rat.intCast_eq_zero_iff.mp z
  omega
theorem qd_add (p r : Int) {q s : Int} (hq : 0 < q) (hs : 0 < s) : qd (p * s + r * q) (q * s) = qd p q + qd r s := by
  have h1 := castNe hq
  have h2 := castNe hs
  unfold qd
  rw [Rat.intCast_add, Rat.intCast_mul, Rat.intCast_mul, Rat.intCast_mul]
  grind
theorem qd_sub (p r : Int) {q s : Int} (hq : 0 < q) (hs : 0 < s) : qd (p * s - r * q) (q * s) = qd p q - qd r s := by
  have h1 := castNe hq
  have h2 := castNe hs
  unfold qd
  rw [Rat.intCast_sub, Rat.intCast_mul, Rat.intCast_mul, Rat.intCast_mul]
  grind
theorem qd_mul (p r : Int) {q s : Int} (hq : 0 < q) (hs : 0 < s) : qd (p * r) (q * s) = qd p q * qd r s := by
  have h1 := castNe hq
  have h2 := castNe hs
  unfold qd
  rw [Rat.intCast_mul, Rat.intCast_mul]
  grind
theorem qd_cut {g p q : Int} (hg : 0 < g) (hq : 0 < q) : qd (g * p) (g * q) = qd p q := by
  have h1 := castNe hg
  have h2 := castNe hq
  unfold qd
  rw [Rat.intCast_mul, Rat.intCast_mul]
  grind
theorem Gd.add {a b : Nat} {x y : Rat} (h : Gd a x) (g : Gd b y) : Gd (a + b + 1) (x + y) := by
  have e : x + y = qd (x.num * y.den + y.num * x.den) (x.den * y.den) := by rw [qd_add _ _ (den0 x) (den0 y), qd_self, qd_self]
  rw [e]
  exact qd_num ((h.num.mul g.den).add ((g.num.mul h.den).le (by omega))) ((h.den.mul g.den).le (by omega)) (Int.mul_pos (den0 x) (den0 y))
theorem Gd.mul {a b : Nat} {x y : Rat} (h : Gd a x) (g : Gd b y) : Gd (a + b) (x * y) := by
  have e : x * y = qd (x.num * y.num) (x.den * y.den) := by rw [qd_mul _ _ (den0 x) (den0 y), qd_self, qd_self]
  rw [e]
  exact qd_num (h.num.mul g.num) (h.den.mul g.den) (Int.mul_pos (den0 x) (den0 y))
theorem lt_cross (x y : Rat) : x < y ↔ x.num * y.den < y.num * x.den := Rat.lt_iff x y
theorem Gd.sub {a b : Nat} {x y : Rat} (h : Gd a x) (g : Gd b y) (l : ¬ x < y) : Gd (a + b) (x - y) := by
  have e : x - y = qd (x.num * y.den - y.num * x.den) (x.den * y.den) := by rw [qd_sub _ _ (den0 x) (den0 y), qd_self, qd_self]
  rw [lt_cross] at l
  rw [e]
  have b1 := h.num.mul g.den
  have b2 := g.num.mul h.den
  exact qd_num ⟨by omega, by have := b1.2; have := b2.1; omega⟩ (h.den.mul g.den) (Int.mul_pos (den0 x) (den0 y))
theorem Gd.int {n : Nat} {a : Int} (h : Bd n a) (h0 : 0 < n) : Gd n (a : Rat) := ⟨Rat.intCast_nonneg.mpr h.1, by rw [Rat.num_intCast]; exact h, by
  rw [Rat.den_intCast]
  exact ⟨by decide, by
    have : (2 : Int) ^ 1 ≤ 2 ^ n := by exact_mod_cast Nat.pow_le_pow_right (by decide) h0
    have e : (2 : Int) ^ 1 = 2 := rfl
    have e2 : ((1 : Nat) : Int) = 1 := rfl
    omega⟩⟩
theorem fr01 : (D.tup [.int 0, .int 1]) = frR 0 := rfl
theorem fr11 : (D.tup [.int 1, .int 1]) = frR 1 := rfl
theorem gd0 : Gd 1 0 := ⟨by decide, ⟨by decide, by decide⟩, ⟨by decide, by decide⟩⟩
theorem gd1 : Gd 1 1 := ⟨by decide, ⟨by decide, by decide⟩, ⟨by decide, by decide⟩⟩
theorem frR_inj {x y : Rat} (h : frR x = frR y) : x = y := by
  unfold frR at h
  injection h with h
  injection h with h1 h2
  injection h2 with h2 _
  injection h1 with h1
  injection h2 with h2
  exact Rat.ext h1 (by omega)
theorem pd_fr (x : Rat) : (frR x).pd = some (.tuple [.int x.num, .int (x.den : Int)]) := rfl
theorem eqv_fr (x y : Rat) : PyData.eqv (.tuple [.int x.num, .int (x.den : Int)]) (.tuple [.int y.num, .int (y.den : Int)]) = decide (x = y) := by
  simp only [PyData.eqv, PyData.eqvAll, Bool.and_true]
  by_cases e : x = y
  · subst e; simp
  · rw [decide_eq_false e]
    by_cases h1 : x.num = y.num
    · have h2 : ¬ (x.den : Int) = (y.den : Int) := fun z => e (Rat.ext h1 (by omega))
      simp [h1, h2]
    · simp [h1]
section
variable {hp : HpD} {k : Bool → Prop} {x y : Rat}
theorem depth_fr : (PyData.tuple [.int x.num, .int (x.den : Int)]).depth = 1 := by simp [PyData.depth, PyData.depthAll]
theorem c_eqF (h : k (decide (x = y))) : opCmp .eq (.d (frR x)) (.d (frR y)) hp k := by
  show min (PyData.tuple [.int x.num, .int (x.den : Int)]).depth (PyData.tuple [.int y.num, .int (y.den : Int)]).depth ≤ 64 ∧ k (PyData.eqv (.tuple [.int x.num, .int (x.den : Int)]) (.tuple [.int y.num, .int (y.den : Int)]))
  rw [eqv_fr, depth_fr, depth_fr]
  exact ⟨by decide, h⟩
theorem c_neF (h : k (!decide (x = y))) : opCmp .ne (.d (frR x)) (.d (frR y)) hp k := c_eqF (k := fun b => k (!b)) h
theorem x_fr0 {Q : SK} (h : Q (.d (.int x.num)) hp) : opIx (.d (frR x)) 0 hp Q := x_tup (l := [.int x.num, .int (x.den : Int)]) rfl h
theorem x_fr1 {Q : SK} (h : Q (.d (.int (x.den : Int))) hp) : opIx (.d (frR x)) 1 hp Q := x_tup (l := [.int x.num, .int (x.den : Int)]) rfl h
end
end Mi

namespace Mi
open PySem PySem.Spec PyProof.Rows L2
/-! ### facts about terms that many laws share: the draws, fractions -/
/-- _law_feed: 0 _law_script -/
def t_law_feed : Fn := ⟨1, 1, [.ret (.lst [(.sl (.v 0) .non (.int 63)), (.int 0), (.int 0), (.int 0)])]⟩
/-- _law_draw: 0 _law_feed_here, 1 _law_many, 2 _law_cell, 3 _law_turn, 4 _law_mixed, 5 _law_told -/
def t_law_draw : Fn := ⟨2, 6, [.augS (.v 0) (.int 3) .add (.int 1), .ite (.cmp .gt (.ix (.v 0) (.int 2)) (.int 0)) [.asg (.n 5) (.bin .mod (.ix (.v 0) (.int 2)) (.v 1)), .asg (.s (.v 0) (.int 2)) (.bin .fdiv (.ix (.v 0) (.int 2)) (.v 1)), .retV 5] [], .asg (.n 2) (.ite (.cmp .eq (.ix (.v 0) (.int 0)) (.lst [])) (.int 7) (.ix (.ix (.v 0) (.int 0)) (.bin .mod (.ix (.v 0) (.int 1)) (.b1 .len (.ix (.v 0) (.int 0)))))), .augS (.v 0) (.int 1) .add (.int 1), .ite (.an (.cmp .ge (.v 2) (.bin .pow (.int 10) (.int 18))) (.cmp .le (.ix (.v 0) (.int 1)) (.b1 .len (.ix (.v 0) (.int 0))))) [.asg (.s (.v 0) (.int 2)) (.bin .fdiv (.v 2) (.v 1)), .ret (.bin .mod (.v 2) (.v 1))] [], .asg (.n 3) (.ix (.v 0) (.int 3)), .asg (.n 4) (.bin .mod (.bin .add (.bin .add (.bin .mod (.v 2) (.int 2147483629)) (.bin .mul (.bin .mul (.int 69621) (.v 3)) (.v 3))) (.bin .mul (.int 7) (.v 3))) (.int 2147483629)), .asg (.n 4) (.bin .mod (.bin .add (.bin .mul (.v 4) (.v 4)) (.bin .mul (.int 48271) (.v 3))) (.int 2147483647)), .asg (.n 4) (.bin .mod (.bin .add (.bin .mul (.v 4) (.v 4)) (.bin .mul (.int 16807) (.v 3))) (.int 2147483587)), .ret (.bin .mod (.bin .fdiv (.bin .mod (.bin .add (.bin .mul (.v 4) (.v 4)) (.v 3)) (.int 2147483629)) (.int 131)) (.v 1))]⟩
/-- divisor: 0 one, 1 other -/
def t_divisor : Fn := ⟨2, 2, [.whl (.cmp .ne (.v 1) (.int 0)) [.par [0, 1] [(.v 1), (.bin .mod (.v 0) (.v 1))]], .retV 0]⟩
/-- fraction_of: 0 over, 1 under, 2 by -/
def t_fraction_of : Fn := ⟨2, 3, [.asg (.n 2) (.call "divisor" [(.v 0), (.v 1)]), .ret (.tup [(.bin .fdiv (.v 0) (.v 2)), (.bin .fdiv (.v 1) (.v 2))])]⟩
/-- plus: 0 one, 1 other -/
def t_plus : Fn := ⟨2, 2, [.ret (.call "fraction_of" [(.bin .add (.bin .mul (.ix (.v 0) (.int 0)) (.ix (.v 1) (.int 1))) (.bin .mul (.ix (.v 1) (.int 0)) (.ix (.v 0) (.int 1)))), (.bin .mul (.ix (.v 0) (.int 1)) (.ix (.v 1) (.int 1)))])]⟩
/-- times: 0 one, 1 other -/
def t_times : Fn := ⟨2, 2, [.ret (.call "fraction_of" [(.bin .mul (.ix (.v 0) (.int 0)) (.ix (.v 1) (.int 0))), (.bin .mul (.ix (.v 0) (.int 1)) (.ix (.v 1) (.int 1)))])]⟩
/-- is_less: 0 one, 1 other -/
def t_is_less : Fn := ⟨2, 2, [.ret (.cmp .lt (.bin .mul (.ix (.v 0) (.int 0)) (.ix (.v 1) (.int 1))) (.bin .mul (.ix (.v 1) (.int 0)) (.ix (.v 0) (.int 1))))]⟩
/-- minus: 0 one, 1 other -/
def t_minus : Fn := ⟨2, 2, [.ite (.call "is_less" [(.v 0), (.v 1)]) [.ret .non] [], .ret (.call "fraction_of" [(.bin .sub (.bin .mul (.ix (.v 0) (.int 0)) (.ix (.v 1) (.int 1))) (.bin .mul (.ix (.v 1) (.int 0)) (.ix (.v 0) (.int 1)))), (.bin .mul (.ix (.v 0) (.int 1)) (.ix (.v 1) (.int 1)))])]⟩
/-- lesser: 0 one, 1 other -/
def t_lesser : Fn := ⟨2, 2, [.ret (.ite (.call "is_less" [(.v 0), (.v 1)]) (.v 0) (.v 1))]⟩
/-- total_of: 0 fractions, 1 found, 2 one -/
def t_total_of : Fn := ⟨1, 3, [.asg (.n 1) (.tup [(.int 0), (.int 1)]), .fr (.n 2) (.e (.v 0)) [.asg (.n 1) (.call "plus" [(.v 1), (.v 2)])], .retV 1]⟩
/-- _law_cut: 0 _law_upper, 1 _law_under, 2 _law_one, 3 _law_other -/
def t_law_cut : Fn := ⟨2, 4, [.par [2, 3] [(.v 0), (.v 1)], .whl (.cmp .ne (.v 3) (.int 0)) [.par [2, 3] [(.v 3), (.bin .mod (.v 2) (.v 3))]], .ret (.tup [(.bin .fdiv (.v 0) (.v 2)), (.bin .fdiv (.v 1) (.v 2))])]⟩
/-- _law_least: 0 _law_upper, 1 _law_under, 2 _law_by -/
def t_law_least : Fn := ⟨2, 3, [.fr (.n 2) (.rg3 (.ite (.cmp .gt (.v 0) (.int 0)) (.b2 .min (.v 0) (.v 1)) (.v 1)) (.int 1)) [.ite (.an (.cmp .eq (.bin .mod (.v 0) (.v 2)) (.int 0)) (.cmp .eq (.bin .mod (.v 1) (.v 2)) (.int 0))) [.ret (.tup [(.bin .fdiv (.v 0) (.v 2)), (.bin .fdiv (.v 1) (.v 2))])] []], .ret (.tup [(.v 0), (.v 1)])]⟩
/-- _law_fraction: 0 _law_feed_here, 1 _law_way, 2 _law_upper, 3 _law_under -/
def t_law_fraction : Fn := ⟨1, 4, [.asg (.n 1) (.call "_law_draw" [(.v 0), (.int 4)]), .par [2, 3] [(.call "_law_draw" [(.v 0), (.ix (.tup [(.int 3), (.int 13), (.int 101)]) (.bin .mod (.v 1) (.int 3)))]), (.bin .add (.int 1) (.call "_law_draw" [(.v 0), (.ix (.tup [(.int 2), (.int 12), (.int 100)]) (.bin .mod (.v 1) (.int 3)))]))], .ret (.call "_law_least" [(.v 2), (.v 3)])]⟩
/-- is_number: 0 thing -/
def t_is_number : Fn := ⟨1, 1, [.ret (.an (.isi (.v 0) .int) (.an (.no (.isi (.v 0) .bool)) (.cmp .ge (.v 0) (.int 0))))]⟩
/-- are_numbers: 0 thing, 1 many, 2 one -/
def t_are_numbers : Fn := ⟨2, 3, [.ret (.an (.isi (.v 0) .tuple) (.an (.cmp .eq (.b1 .len (.v 0)) (.v 1)) (.b1 .all (.comp (.call "is_number" [(.v 2)]) [2] (.e (.v 0)) (.bl true) [2]))))]⟩
/-- is_fraction: 0 thing -/
def t_is_fraction : Fn := ⟨1, 1, [.ret (.an (.call "are_numbers" [(.v 0), (.int 2)]) (.an (.cmp .gt (.ix (.v 0) (.int 1)) (.int 0)) (.cmp .eq (.call "divisor" [(.ix (.v 0) (.int 0)), (.ix (.v 0) (.int 1))]) (.int 1))))]⟩

section
variable {pg : Pg} {co : ConT} {k : Nat} {hp : HpD} {Q : SK} {E : EK}
theorem s_feed {ns : List Int} (hn : ns.length ≤ 63) (h : Q (.ol [.lst (ns.map .int), .int 0, .int 0, .int 0]) hp) (g : pg "_law_feed" = some t_law_feed := by rfl) : callD pg co (k + 1) "_law_feed" [.lst (ns.map .int)] hp Q E := by
  refine call_intro g rfl ?_
  generalize callD pg co k = cl
  show wss cl co t_law_feed.body [some (.d (.lst (ns.map .int)))] hp _
  unfold t_law_feed
  dsimp only
  expose_names
  rw [show ((63 : Int)) = ((63 : Nat) : Int) from rfl, cut_whole (by rw [List.length_map]; exact hn)]
  expose_names
  exact h
theorem feed_le {ns : List Int} {a b : Nat} {o : MO} (h : FeedL ns a o) (l : b ≤ a) : FeedL ns b o := by
  obtain ⟨t, r, u, e, h1, h2, h3⟩ := h
  exact ⟨t, r, u, e, h1, h2, by omega⟩
theorem feed0 (ns : List Int) : FeedL ns 1000000 (.lst [.lst (ns.map .int), .int 0, .int 0, .int 0]) := ⟨0, 0, 0, rfl, by decide, by decide, by decide⟩
theorem s_draw {ns : List Int} {b : Nat} {a : Addr} {o : MO} {m : Int} (ho : FeedL ns (b + 1) o) (hm : 0 < m) (hm2 : m < 2 ^ 60)
    (hQ : ∀ r o', 0 ≤ r → r < m → FeedL ns b o' → Q (.d (.int r)) (updD hp a o')) (g : pg "_law_draw" = some t_law_draw := by rfl) : callD pg co (k + 1) "_law_draw" [.ref a, .int m] (updD hp a o) Q E := by
  obtain ⟨t, r, u, rfl, h1, h2, h3⟩ := ho
  refine call_intro g rfl ?_
  generalize callD pg co k = cl
  show wss cl co t_law_draw.body [some (.d (.ref a)), some (.d (.int m)), none, none, none, none] (updD hp a (.lst [.lst (ns.map .int), .int t, .int r, .int u])) _
  have bm : Bd 60 m := ⟨by omega, hm2⟩
  have bu : Bd 60 (u + 1) := ⟨by omega, by omega⟩
  have fin : ∀ (x t' r' : Int), 0 ≤ t' → Q (.d (.int (x % m))) (updD hp a (.lst [.lst (ns.map .int), .int t', .int r', .int (u + 1)])) := fun x t' r' ht => hQ _ _ (Int.emod_nonneg _ (by omega)) (Int.emod_lt_of_pos _ hm) ⟨t', r', u + 1, rfl, ht, by omega, by omega⟩
  unfold t_law_draw
  dsimp only
  expose_names
  refine if_D (fun c1 => ?_) (fun c1 => ?_)
  · expose_names
    exact fin _ _ _ h1
  · bv_omega
    have rest : ∀ c : Int, wss cl co (t_law_draw.body.drop 3) [some (.d (.ref a)), some (.d (.int m)), some (.d (.int c)), none, none, none] (updD hp a (.lst [.lst (ns.map .int), .int t, .int r, .int (u + 1)])) ⟨fun _ hp => Q (.d .non) hp, Q, noNx, noNx, fun c fs _ hp => E c fs hp⟩ := fun c => by
      unfold t_law_draw
      dsimp only [List.drop]
      refine w_cons ?_
      bv_omega
      refine w_cons ?_
      bv_omega
      have tail : ∀ (t' r' : Int), 0 ≤ t' → wss cl co (t_law_draw.body.drop 5) [some (.d (.ref a)), some (.d (.int m)), some (.d (.int c)), none, none, none] (updD hp a (.lst [.lst (ns.map .int), .int t', .int r', .int (u + 1)])) ⟨fun _ hp => Q (.d .non) hp, Q, noNx, noNx, fun c fs _ hp => E c fs hp⟩ := fun t' r' ht => by
        unfold t_law_draw
        dsimp only [List.drop]
        expose_names
        exact fin _ _ _ ht
      refine if_D (fun c2 => ?_) (fun c2 => ?_)
      · bv_omega
        refine if_D (fun c3 => ?_) (fun c3 => ?_)
        · expose_names
          exact fin _ _ _ (by omega)
        · bv_omega
          exact tail _ _ (by omega)
      · bv_omega
        exact tail _ _ (by omega)
    refine w_cons ?_
    bv_omega
    refine if_D (fun c2 => ?_) (fun c2 => ?_)
    · bv_omega
      exact rest 7
    · have hlen : (0 : Int) < ((ns.map D.int).length : Nat) := by
        rw [List.length_map]
        cases ns with
        | nil => exact (c2 rfl).elim
        | cons n ns => simp only [List.length_cons]; omega
      bv_omega
      refine x_lst (atI_ints (Int.emod_nonneg _ (by omega)) (by rw [← List.length_map (f := D.int)]; exact Int.emod_lt_of_pos _ hlen)) ?_
      bv_omega
      exact rest _
/-! fractions -/
theorem s_divisor {a b : Int} (ha : 0 ≤ a) (hb : 0 ≤ b) (h : Q (.d (.int (gc a b))) hp) (g : pg "divisor" = some t_divisor := by rfl) : callD pg co (k + 1) "divisor" [.int a, .int b] hp Q E := by
  refine call_intro g rfl ?_
  generalize callD pg co k = cl
  show wss cl co t_divisor.body [some (.d (.int a)), some (.d (.int b))] hp _
  unfold t_divisor
  dsimp only
  refine w_cons (w_whl ⟨fun m ev hp' => ∃ x y, ev = [some (.d (.int x)), some (.d (.int y))] ∧ hp' = hp ∧ 0 ≤ x ∧ 0 ≤ y ∧ gc x y = gc a b ∧ m = y.toNat, ⟨_, a, b, rfl, rfl, ha, hb, rfl, rfl⟩, ?_⟩)
  rintro m ev hp' ⟨x, y, rfl, rfl, hx, hy, e, rfl⟩
  expose_names
  refine if_N (fun c => ?_) (fun c => ?_)
  · refine w_cons ?_
    refine w_par ?_
    expose_names
    exact ⟨(x % y).toNat, by have := Int.emod_lt_of_pos x (b := y) (by omega); have := Int.emod_nonneg x (b := y) (by omega); omega, y, x % y, rfl, rfl, hy, Int.emod_nonneg _ (by omega), by rw [gc_step hx (by omega)]; exact e, rfl⟩
  · subst c
    expose_names
    rw [gc_zero hx] at e
    rw [e]
    exact h
theorem s_fraction {n : Nat} {a b : Int} (ha : Bd n a) (hb : Bd n b) (h0 : 0 < b) (hn : n < 8000) (h : Q (.d (frR (qd a b))) hp) (g : pg "fraction_of" = some t_fraction_of := by rfl) (g1 : pg "divisor" = some t_divisor := by rfl) : callD pg co (k + 2) "fraction_of" [.int a, .int b] hp Q E := by
  refine call_intro g rfl ?_
  show wss (callD pg co (k + 1)) co t_fraction_of.body [some (.d (.int a)), some (.d (.int b)), none] hp _
  rw [← cut_eq h0] at h
  unfold t_fraction_of
  dsimp only
  have bg := gc_bd (a := a) h0 hb
  have pg' := gc_pos (a := a) h0
  expose_names
  refine s_divisor ha.1 hb.1 ?_ g1
  expose_names
  exact h
theorem s_plus {n : Nat} {x y : Rat} (hx : Gd n x) (hy : Gd n y) (hn : n < 3000) (h : Q (.d (frR (x + y))) hp) (g : pg "plus" = some t_plus := by rfl) (g1 : pg "fraction_of" = some t_fraction_of := by rfl) (g2 : pg "divisor" = some t_divisor := by rfl) :
    callD pg co (k + 3) "plus" [frR x, frR y] hp Q E := by
  refine call_intro g rfl ?_
  show wss (callD pg co (k + 2)) co t_plus.body [some (.d (fr x.num x.den)), some (.d (fr y.num y.den))] hp _
  rw [← qd_self x, ← qd_self y, ← qd_add _ _ (den0 x) (den0 y)] at h
  obtain ⟨_, hp0, hq⟩ := hx
  obtain ⟨_, hr, hs⟩ := hy
  have q0 := den0 x
  have s0 := den0 y
  generalize x.num = p at hp0 h ⊢
  generalize y.num = r at hr h ⊢
  generalize (x.den : Int) = q at hq q0 h ⊢
  generalize (y.den : Int) = s at hs s0 h ⊢
  unfold t_plus
  dsimp only
  expose_names
  exact s_fraction (n := n + n + 1) ((hp0.mul hs).add (hr.mul hq)) ((hq.mul hs).le (by omega)) (Int.mul_pos q0 s0) (by omega) h g1 g2
theorem s_times {n : Nat} {x y : Rat} (hx : Gd n x) (hy : Gd n y) (hn : n < 3000) (h : Q (.d (frR (x * y))) hp) (g : pg "times" = some t_times := by rfl) (g1 : pg "fraction_of" = some t_fraction_of := by rfl) (g2 : pg "divisor" = some t_divisor := by rfl) :
    callD pg co (k + 3) "times" [frR x, frR y] hp Q E := by
  refine call_intro g rfl ?_
  show wss (callD pg co (k + 2)) co t_times.body [some (.d (fr x.num x.den)), some (.d (fr y.num y.den))] hp _
  rw [← qd_self x, ← qd_self y, ← qd_mul _ _ (den0 x) (den0 y)] at h
  obtain ⟨_, hp0, hq⟩ := hx
  obtain ⟨_, hr, hs⟩ := hy
  have q0 := den0 x
  have s0 := den0 y
  generalize x.num = p at hp0 h ⊢
  generalize y.num = r at hr h ⊢
  generalize (x.den : Int) = q at hq q0 h ⊢
  generalize (y.den : Int) = s at hs s0 h ⊢
  unfold t_times
  dsimp only
  expose_names
  exact s_fraction (n := n + n) (hp0.mul hr) (hq.mul hs) (Int.mul_pos q0 s0) (by omega) h g1 g2
theorem s_less {n : Nat} {x y : Rat} (hx : Gd n x) (hy : Gd n y) (hn : n < 3000) (h : Q (.d (.bl (decide (x < y)))) hp) (g : pg "is_less" = some t_is_less := by rfl) : callD pg co (k + 1) "is_less" [frR x, frR y] hp Q E := by
  refine call_intro g rfl ?_
  show wss (callD pg co k) co t_is_less.body [some (.d (fr x.num x.den)), some (.d (fr y.num y.den))] hp _
  have e : decide (x < y) = decide (x.num * y.den < y.num * x.den) := decide_eq_decide.mpr (lt_cross x y)
  rw [e] at h
  obtain ⟨_, hp0, hq⟩ := hx
  obtain ⟨_, hr, hs⟩ := hy
  generalize x.num = p at hp0 h ⊢
  generalize y.num = r at hr h ⊢
  generalize (x.den : Int) = q at hq h ⊢
  generalize (y.den : Int) = s at hs h ⊢
  unfold t_is_less
  dsimp only
  expose_names
  exact h
theorem s_minus {n : Nat} {x y : Rat} (hx : Gd n x) (hy : Gd n y) (hn : n < 3000) (h : Q (.d (if x < y then .non else frR (x - y))) hp) (g : pg "minus" = some t_minus := by rfl) (g0 : pg "is_less" = some t_is_less := by rfl) (g1 : pg "fraction_of" = some t_fraction_of := by rfl) (g2 : pg "divisor" = some t_divisor := by rfl) :
    callD pg co (k + 3) "minus" [frR x, frR y] hp Q E := by
  refine call_intro g rfl ?_
  show wss (callD pg co (k + 2)) co t_minus.body [some (.d (fr x.num x.den)), some (.d (fr y.num y.den))] hp _
  unfold t_minus
  dsimp only
  expose_names
  refine s_less (n := n) hx hy hn ?_ g0
  expose_names
  refine if_D (fun c => ?_) (fun c => ?_)
  · rw [if_pos c] at h
    expose_names
    exact h
  · rw [if_neg c] at h
    rw [lt_cross] at c
    rw [← qd_self x, ← qd_self y, ← qd_sub _ _ (den0 x) (den0 y)] at h
    obtain ⟨_, hp0, hq⟩ := hx
    obtain ⟨_, hr, hs⟩ := hy
    have q0 := den0 x
    have s0 := den0 y
    generalize x.num = p at hp0 h c ⊢
    generalize y.num = r at hr h c ⊢
    generalize (x.den : Int) = q at hq q0 h c ⊢
    generalize (y.den : Int) = s at hs s0 h c ⊢
    expose_names
    have b1 := hp0.mul hs
    have b2 := hr.mul hq
    exact s_fraction (n := n + n) ⟨by omega, by have := b1.2; have := b2.1; omega⟩ (hq.mul hs) (Int.mul_pos q0 s0) (by omega) h g1 g2
theorem s_lesser {n : Nat} {x y : Rat} (hx : Gd n x) (hy : Gd n y) (hn : n < 3000) (h : Q (.d (frR (if x < y then x else y))) hp) (g : pg "lesser" = some t_lesser := by rfl) (g0 : pg "is_less" = some t_is_less := by rfl) : callD pg co (k + 2) "lesser" [frR x, frR y] hp Q E := by
  refine call_intro g rfl ?_
  show wss (callD pg co (k + 1)) co t_lesser.body [some (.d (frR x)), some (.d (frR y))] hp _
  unfold t_lesser
  dsimp only
  expose_names
  refine s_less (n := n) hx hy hn ?_ g0
  expose_names
  refine if_D (fun c => ?_) (fun c => ?_)
  · rw [if_pos c] at h
    expose_names
    exact h
  · rw [if_neg c] at h
    expose_names
    exact h
theorem s_cut {n : Nat} {a b : Int} (ha : Bd n a) (hb : Bd n b) (h0 : 0 < b) (hn : n < 8000) (h : Q (.d (frR (qd a b))) hp) (g : pg "_law_cut" = some t_law_cut := by rfl) : callD pg co (k + 1) "_law_cut" [.int a, .int b] hp Q E := by
  refine call_intro g rfl ?_
  generalize callD pg co k = cl
  show wss cl co t_law_cut.body [some (.d (.int a)), some (.d (.int b)), none, none] hp _
  rw [← cut_eq h0] at h
  unfold t_law_cut
  dsimp only
  have bg := gc_bd (a := a) h0 hb
  have pg' := gc_pos (a := a) h0
  refine w_cons ?_
  bv_omega
  refine w_cons (w_whl ⟨fun m ev hp' => ∃ x y, ev = [some (.d (.int a)), some (.d (.int b)), some (.d (.int x)), some (.d (.int y))] ∧ hp' = hp ∧ 0 ≤ x ∧ 0 ≤ y ∧ gc x y = gc a b ∧ m = y.toNat, ⟨_, a, b, rfl, rfl, ha.1, hb.1, rfl, rfl⟩, ?_⟩)
  rintro m ev hp' ⟨x, y, rfl, rfl, hx, hy, e, rfl⟩
  expose_names
  refine if_N (fun c => ?_) (fun c => ?_)
  · expose_names
    exact ⟨(x % y).toNat, by have := Int.emod_lt_of_pos x (b := y) (by omega); have := Int.emod_nonneg x (b := y) (by omega); omega, y, x % y, rfl, rfl, hy, Int.emod_nonneg _ (by omega), by rw [gc_step hx (by omega)]; exact e, rfl⟩
  · subst c
    rw [gc_zero hx] at e
    subst e
    expose_names
    exact h
end
end Mi

namespace Mi
open PySem PySem.Spec PyProof.Rows L2
section
variable {pg : Pg} {co : ConT} {k : Nat} {hp : HpD} {Q : SK} {E : EK}
theorem gc_dvd {u v d : Int} (h0 : 0 < d) (h1 : u % d = 0) (h2 : v % d = 0) : d ∣ gc u v := by
  unfold gc
  exact Int.dvd_coe_gcd (Int.dvd_of_emod_eq_zero h1) (Int.dvd_of_emod_eq_zero h2)
theorem gc_ml (u v : Int) : u % gc u v = 0 ∧ v % gc u v = 0 := ⟨Int.emod_eq_zero_of_dvd (Int.gcd_dvd_left ..), Int.emod_eq_zero_of_dvd (Int.gcd_dvd_right ..)⟩
theorem s_least {n : Nat} {u v : Int} (hu : Bd n u) (hv : Bd n v) (v0 : 0 < v) (hn : n ≤ 60) (h : Q (.d (frR (qd u v))) hp) (g : pg "_law_least" = some t_law_least := by rfl) : callD pg co (k + 1) "_law_least" [.int u, .int v] hp Q E := by
  refine call_intro g rfl ?_
  have hc := call_mono pg co k
  generalize callD pg co k = cl at hc ⊢
  show wss cl co t_law_least.body [some (.d (.int u)), some (.d (.int v)), none] hp _
  rw [← cut_eq v0] at h
  have gp := gc_pos (a := u) v0
  have gl := gc_le (a := u) v0
  unfold t_law_least
  dsimp only
  have big : (2 : Int) ^ n ≤ 2 ^ 60 := by exact_mod_cast Nat.pow_le_pow_right (by decide) hn
  have u1 := hu.1
  have u2 := hu.2
  have v2 := hv.2
  refine w_cons (w_for hc (i_rg3D ?_))
  refine r_join hc (fun d => ∃ m : Int, d = .int m ∧ m < 2 ^ 60 ∧ 0 ≤ m ∧ gc u v ≤ m) ?_ ?_
  · expose_names
    refine if_D (fun c1 => ?_) (fun c1 => ?_)
    · have gu : gc u v ≤ u := Int.le_of_dvd c1 (Int.gcd_dvd_left ..)
      expose_names
      refine ⟨_, rfl, rfl, _, rfl, ?_, ?_, ?_⟩ <;> split <;> omega
    · expose_names
      exact ⟨_, rfl, rfl, _, rfl, by omega, by omega, gl⟩
  rintro d ⟨m, rfl, hm, m0, gm⟩
  expose_names
  refine ⟨⟨by omega, by omega, by omega, by omega⟩, fun _ => trivial, fun i ev hp' => ∃ s2, ev = [some (.d (.int u)), some (.d (.int v)), s2] ∧ hp' = hp ∧ (∀ d : Int, m - (i : Int) < d → d ≤ m → ¬ (u % d = 0 ∧ v % d = 0)), ⟨_, rfl, rfl, fun d h1 h2 => by omega⟩, ?_, ?_⟩
  · rintro i x ev hp' ex ⟨s2, rfl, rfl, no⟩
    obtain ⟨h1, rfl⟩ := downD_get _ _ _ _ ex
    have pos : 0 < m - (i : Int) := by omega
    have bm : Bd 60 (m - (i : Int)) := ⟨by omega, by omega⟩
    expose_names
    refine if_D (fun c1 => ?_) (fun c1 => ?_)
    · expose_names
      refine if_D (fun c2 => ?_) (fun c2 => ?_)
      · expose_names
        have e : gc u v = m - (i : Int) := by
          have l1 : m - (i : Int) ≤ gc u v := Int.le_of_dvd gp (gc_dvd pos c1 c2)
          by_cases z : m - (i : Int) < gc u v
          · exact (no _ z gm (gc_ml u v)).elim
          · omega
        unfold cutD at h
        rw [e] at h
        exact h
      · expose_names
        refine ⟨_, rfl, rfl, fun d h1 h2 => ?_⟩
        by_cases z : d = m - (i : Int)
        · rw [z]; exact fun z => c2 z.2
        · exact no d (by omega) h2
    · expose_names
      refine ⟨_, rfl, rfl, fun d h1 h2 => ?_⟩
      by_cases z : d = m - (i : Int)
      · rw [z]; exact fun z => c1 z.1
      · exact no d (by omega) h2
  · rintro ev hp' ⟨s2, rfl, rfl, no⟩
    rw [downD_len] at no
    expose_names
    have e : gc u v = 1 := by
      by_cases z : 1 < gc u v
      · exact (no _ (by omega) gm (gc_ml u v)).elim
      · omega
    unfold cutD at h
    rw [e, Int.ediv_one, Int.ediv_one] at h
    exact h
theorem at3 {a b c i : Int} (h0 : 0 ≤ i) (h1 : i < 3) : ∃ y, atI [D.int a, .int b, .int c] i = some (.int y) ∧ (y = a ∨ y = b ∨ y = c) := by
  have : i = 0 ∨ i = 1 ∨ i = 2 := by omega
  rcases this with rfl | rfl | rfl
  · exact ⟨a, rfl, .inl rfl⟩
  · exact ⟨b, rfl, .inr (.inl rfl)⟩
  · exact ⟨c, rfl, .inr (.inr rfl)⟩
theorem s_fracd {ns : List Int} {b : Nat} {a : Addr} {o : MO} (ho : FeedL ns (b + 3) o)
    (hQ : ∀ x o', Gd 8 x → FeedL ns b o' → Q (.d (frR x)) (updD hp a o')) (g : pg "_law_fraction" = some t_law_fraction := by rfl) (g1 : pg "_law_draw" = some t_law_draw := by rfl) (g2 : pg "_law_least" = some t_law_least := by rfl) :
    callD pg co (k + 2) "_law_fraction" [.ref a] (updD hp a o) Q E := by
  refine call_intro g rfl ?_
  show wss (callD pg co (k + 1)) co t_law_fraction.body [some (.d (.ref a)), none, none, none] _ _
  unfold t_law_fraction
  dsimp only
  expose_names
  refine s_draw ho (by omega) (by omega) (fun way o1 w0 w1 h1 => ?_) g1
  obtain ⟨m1, e1, c1⟩ := at3 (a := 3) (b := 13) (c := 101) (i := way % 3) (by omega) (by omega)
  obtain ⟨m2, e2, c2⟩ := at3 (a := 2) (b := 12) (c := 100) (i := way % 3) (by omega) (by omega)
  expose_names
  refine x_tup e1 ?_
  expose_names
  refine s_draw h1 (by omega) (by omega) (fun p o2 p0 p1 h2 => ?_) g1
  expose_names
  refine x_tup e2 ?_
  expose_names
  refine s_draw h2 (by omega) (by omega) (fun q o3 q0 q1 h3 => ?_) g1
  expose_names
  exact s_least (n := 8) ⟨p0, by omega⟩ ⟨by omega, by omega⟩ (by omega) (by decide) (hQ _ o3 (qd_num ⟨p0, by omega⟩ ⟨by omega, by omega⟩ (by omega)) h3) g2
/-! all added -/
abbrev frL (l : List Rat) : List D := l.map frR
def sumQ (l : List Rat) : Rat := l.foldl (· + ·) 0
theorem sum_succ {l : List Rat} {i : Nat} {x : Rat} (h : l[i]? = some x) : sumQ (l.take (i + 1)) = sumQ (l.take i) + x := by
  unfold sumQ
  rw [List.take_add_one, h]
  simp
theorem sum_good {n : Nat} {l : List Rat} (hl : ∀ x ∈ l, Gd n x) : ∀ i, i ≤ l.length → Gd ((n + 1) * i + 1) (sumQ (l.take i))
  | 0, _ => by
    have : sumQ (l.take 0) = 0 := rfl
    rw [this]; exact gd0
  | i + 1, h => by
    have hi : i < l.length := by omega
    have e : l[i]? = some l[i] := List.getElem?_eq_getElem hi
    rw [sum_succ e]
    refine ((sum_good hl i (by omega)).add (hl _ (List.getElem_mem hi))).le ?_
    rw [Nat.mul_succ]; omega
theorem frL_at {l : List Rat} {i : Nat} {x : D} (h : (frL l)[i]? = some x) : ∃ y, l[i]? = some y ∧ x = frR y ∧ y ∈ l := by
  rw [List.getElem?_map] at h
  obtain ⟨y, h1, h2⟩ := Option.map_eq_some_iff.mp h
  exact ⟨y, h1, h2.symm, List.mem_of_getElem? h1⟩
theorem s_total {n : Nat} {l : List Rat} (hl : ∀ x ∈ l, Gd n x) (hn : (n + 1) * l.length + n ≤ 2000) (h : Q (.d (frR (sumQ l))) hp) (g : pg "total_of" = some t_total_of := by rfl) (g0 : pg "plus" = some t_plus := by rfl) (g1 : pg "fraction_of" = some t_fraction_of := by rfl) (g2 : pg "divisor" = some t_divisor := by rfl) :
    callD pg co (k + 4) "total_of" [.tup (frL l)] hp Q E := by
  refine call_intro g rfl ?_
  show wss (callD pg co (k + 3)) co t_total_of.body [some (.d (.tup (frL l))), none, none] _ _
  unfold t_total_of
  dsimp only
  refine w_cons ?_
  bv_omega
  refine w_cons (w_for (call_mono pg co _) (i_e ?_))
  expose_names
  refine s_tup ⟨fun _ => trivial, fun i ev hp' => ∃ s2, ev = [some (.d (.tup (frL l))), some (.d (frR (sumQ (l.take i)))), s2] ∧ hp' = hp, ⟨none, by rw [List.take_zero]; rfl, rfl⟩, ?_, ?_⟩
  · rintro i x ev hp' ex ⟨s2, rfl, rfl⟩
    obtain ⟨y, e1, rfl, hy⟩ := frL_at ex
    have hi : i < l.length := (List.getElem?_eq_some_iff.mp e1).1
    have hg := sum_good hl i (by omega)
    have hs := sum_succ e1
    have hm : (n + 1) * i ≤ (n + 1) * l.length := Nat.mul_le_mul_left _ (by omega)
    expose_names
    refine s_plus (n := 2001) (hg.le (by omega)) ((hl y hy).le (by omega)) (by omega) ?_ g0 g1 g2
    expose_names
    exact ⟨some (.d (frR y)), by rw [hs], rfl⟩
  · rintro ev hp' ⟨s2, rfl, rfl⟩
    have e0 : l.take (frL l).length = l := by rw [List.length_map]; exact List.take_length
    simp only [e0]
    expose_names
    exact h
/-! numbers, of any thing -/
mutual
/-- plain: nothing that may change, no def -/
def plD : D → Bool
  | .ref _ => false
  | .fn _ => false
  | .tup l => plDs l
  | .lst l => plDs l
  | _ => true
def plDs : List D → Bool
  | [] => true
  | x :: r => plD x && plDs r
end
def isNum : D → Bool
  | .int i => decide (0 ≤ i)
  | _ => false
def isTupD : D → Bool
  | .tup _ => true
  | _ => false
theorem isi_int {x : D} (h : plD x = true) {K : Bool → Prop} (hk : K (match x with | .int _ => true | .bl _ => true | _ => false)) : onSome (isTy hp .int (.d x)) K := by
  cases x <;> first | exact hk | cases h
theorem isi_bool {x : D} (h : plD x = true) {K : Bool → Prop} (hk : K (match x with | .bl _ => true | _ => false)) : onSome (isTy hp .bool (.d x)) K := by
  cases x <;> first | exact hk | cases h
theorem isi_str {x : D} (h : plD x = true) {K : Bool → Prop} (hk : K (match x with | .str _ => true | _ => false)) : onSome (isTy hp .str (.d x)) K := by
  cases x <;> first | exact hk | cases h
theorem isi_tup {x : D} (h : plD x = true) {K : Bool → Prop} (hk : K (isTupD x)) : onSome (isTy hp .tuple (.d x)) K := by
  cases x <;> first | exact hk | cases h
theorem isi_list {x : D} (h : plD x = true) {K : Bool → Prop} (hk : K (match x with | .lst _ => true | _ => false)) : onSome (isTy hp .list (.d x)) K := by
  cases x <;> first | exact hk | cases h
theorem plDs_at : ∀ {l : List D} {i : Nat} {x : D}, plDs l = true → l[i]? = some x → plD x = true
  | [], i, x, _, e => by simp at e
  | y :: r, 0, x, h, e => by
    simp only [plDs, Bool.and_eq_true] at h
    simp at e; subst e; exact h.1
  | y :: r, i + 1, x, h, e => by
    simp only [plDs, Bool.and_eq_true] at h
    exact plDs_at h.2 (by simpa using e)
theorem s_isnum {x : D} (hx : plD x = true) (h : Q (.d (.bl (isNum x))) hp) (g : pg "is_number" = some t_is_number := by rfl) : callD pg co (k + 1) "is_number" [x] hp Q E := by
  refine call_intro g rfl ?_
  generalize callD pg co k = cl
  show wss cl co t_is_number.body [some (.d x)] hp _
  unfold t_is_number
  dsimp only
  expose_names
  refine isi_int hx ?_
  cases x <;> (expose_names; first | exact h | skip)
def areN (x : D) (n : Int) : Bool := match x with
  | .tup l => decide ((l.length : Int) = n) && l.all isNum
  | _ => false
theorem all_bl (l : List Bool) : boolsD (l.map D.bl) = some l := by
  induction l with
  | nil => rfl
  | cons b r ih => show (boolsD (r.map D.bl)).map (b :: ·) = _; rw [ih]; rfl
theorem b_all {l : List Bool} (h : Q (.d (.bl (l.all id))) hp) : opB1 .all (.ol (l.map D.bl)) hp Q := by
  show onSome ((lstD hp (.ol (l.map D.bl))).bind boolsD) _
  have e : (lstD hp (.ol (l.map D.bl))).bind boolsD = some l := all_bl l
  rw [e]; exact h
theorem s_arenum {x : D} {n : Int} (hx : plD x = true) (hl : ∀ l, x = .tup l → l.length ≤ sizeLine) (h : Q (.d (.bl (areN x n))) hp) (g : pg "are_numbers" = some t_are_numbers := by rfl) (g1 : pg "is_number" = some t_is_number := by rfl) : callD pg co (k + 2) "are_numbers" [x, .int n] hp Q E := by
  refine call_intro g rfl ?_
  have hc := call_mono pg co (k + 1)
  show wss (callD pg co (k + 1)) co t_are_numbers.body [some (.d x), some (.d (.int n)), none] hp _
  unfold t_are_numbers
  dsimp only
  expose_names
  refine isi_tup hx ?_
  cases x with
  | tup l =>
    expose_names
    refine if_D (fun c => ?_) (fun c => ?_)
    · expose_names
      refine r_cmpr hc rfl (i_eB ?_)
      expose_names
      have hz := hl l rfl
      have hx' : plDs l = true := hx
      refine s_tup ⟨fun _ => trivial, fun i acc hp' => acc = ((l.take i).map isNum).map D.bl ∧ hp' = hp, ⟨rfl, rfl⟩, ?_, ?_⟩
      · rintro i y acc hp' e ⟨rfl, rfl⟩
        refine ⟨_, rfl, ?_⟩
        expose_names
        refine s_isnum (plDs_at hx' e) ?_ g1
        expose_names
        have hi : i < l.length := (List.getElem?_eq_some_iff.mp e).1
        refine ⟨by simp; omega, ?_, rfl⟩
        rw [List.take_add_one, e]; simp
      · rintro acc hp' ⟨rfl, rfl⟩
        rw [List.take_length]
        refine b_all ?_
        have : areN (.tup l) n = (l.map isNum).all id := by
          show (decide ((l.length : Int) = n) && l.all isNum) = _
          rw [decide_eq_true c, List.all_map]; rfl
        rw [← this]; exact h
    · expose_names
      have : areN (.tup l) n = false := by
        show (decide ((l.length : Int) = n) && l.all isNum) = _
        rw [decide_eq_false c]; rfl
      rw [this] at h; exact h
  | _ => exact h
def isFr (x : D) : Bool := areN x 2 && (match x with
  | .tup [.int a, .int b] => decide (0 < b) && decide (gc a b = 1)
  | _ => false)
theorem areN2 {x : D} (h : areN x 2 = true) : ∃ a b : Int, x = .tup [.int a, .int b] ∧ 0 ≤ a ∧ 0 ≤ b := by
  cases x with
  | tup l =>
    have h' : (decide ((l.length : Int) = 2) && l.all isNum) = true := h
    simp only [Bool.and_eq_true, decide_eq_true_eq] at h'
    obtain ⟨h1, h2⟩ := h'
    match l, h1, h2 with
    | [a, b], _, h2 =>
      simp only [List.all_cons, List.all_nil, Bool.and_true, Bool.and_eq_true] at h2
      cases a <;> first | (cases h2.1; done) | skip
      cases b <;> first | (cases h2.2; done) | skip
      exact ⟨_, _, rfl, of_decide_eq_true h2.1, of_decide_eq_true h2.2⟩
    | [], h1, _ => simp at h1
    | [a], h1, _ => simp at h1
    | a :: b :: c :: l, h1, _ => simp at h1; omega
  | _ => cases h
theorem s_isfr {x : D} (hx : plD x = true) (hl : ∀ l, x = .tup l → l.length ≤ sizeLine) (h : Q (.d (.bl (isFr x))) hp) (g : pg "is_fraction" = some t_is_fraction := by rfl) (g1 : pg "are_numbers" = some t_are_numbers := by rfl) (g2 : pg "is_number" = some t_is_number := by rfl) (g3 : pg "divisor" = some t_divisor := by rfl) :
    callD pg co (k + 3) "is_fraction" [x] hp Q E := by
  refine call_intro g rfl ?_
  show wss (callD pg co (k + 2)) co t_is_fraction.body [some (.d x)] hp _
  unfold t_is_fraction
  dsimp only
  expose_names
  refine s_arenum hx hl ?_ g1 g2
  expose_names
  unfold isFr at h
  by_cases c : areN x 2 = true
  · rw [c] at h ⊢
    obtain ⟨a, b, rfl, ha, hb⟩ := areN2 c
    expose_names
    refine if_D (fun c1 => ?_) (fun c1 => ?_)
    · expose_names
      refine s_divisor ha hb ?_ g3
      expose_names
      simp only [Bool.true_and, decide_eq_true c1] at h
      exact h
    · expose_names
      simp only [Bool.true_and, decide_eq_false c1, Bool.false_and] at h
      exact h
  · rw [Bool.eq_false_iff.mpr c] at h ⊢
    exact h
theorem isFr_fr (x : Rat) (h : 0 ≤ x) : isFr (frR x) = true := by
  have h1 : 0 ≤ x.num := Rat.num_nonneg.mpr h
  have h2 := den0 x
  have h3 : gc x.num (x.den : Int) = 1 := by
    unfold gc
    rw [Int.gcd_eq_natAbs_gcd_natAbs]
    have := x.reduced
    unfold Nat.Coprime at this
    rw [show ((x.den : Int)).natAbs = x.den from rfl, this]; rfl
  have h4 : isNum (.int x.num) = true := by unfold isNum; exact decide_eq_true h1
  have h5 : isNum (.int (x.den : Int)) = true := by unfold isNum; exact decide_eq_true (by omega)
  show (areN (.tup [.int x.num, .int (x.den : Int)]) 2 && (decide (0 < (x.den : Int)) && decide (gc x.num (x.den : Int) = 1))) = true
  have h6 : areN (.tup [.int x.num, .int (x.den : Int)]) 2 = true := by
    show (decide (((2 : Nat) : Int) = 2) && (isNum (.int x.num) && (isNum (.int (x.den : Int)) && true))) = true
    rw [h4, h5]; rfl
  rw [h6, decide_eq_true h2, decide_eq_true h3]; rfl
theorem s_isfrR {x : Rat} (hx : 0 ≤ x) (h : Q (.d (.bl true)) hp) (g : pg "is_fraction" = some t_is_fraction := by rfl) (g1 : pg "are_numbers" = some t_are_numbers := by rfl) (g2 : pg "is_number" = some t_is_number := by rfl) (g3 : pg "divisor" = some t_divisor := by rfl) :
    callD pg co (k + 3) "is_fraction" [frR x] hp Q E :=
  s_isfr rfl (fun l e => by cases e; simp [sizeLine_eq]) (by rw [isFr_fr x hx]; exact h) g g1 g2 g3
end
end Mi

namespace Mi
open PySem PySem.Spec PyProof.Rows L2
section
variable {hp : HpD} {K : Bool → Prop} {Q : SK}
theorem c_isB {b c : Bool} (h : K (decide (c = b))) : opCmp .isn (.d (.bl c)) (.d (.bl b)) hp K := h
theorem c_isnotB {b c : Bool} (h : K (!decide (c = b))) : opCmp .isnotn (.d (.bl c)) (.d (.bl b)) hp K := h
theorem c_isNN (h : K true) : opCmp .isn (.d .non) (.d .non) hp K := h
theorem c_isNF {x : Rat} (h : K false) : opCmp .isn (.d (frR x)) (.d .non) hp K := h
theorem c_isnotNN (h : K false) : opCmp .isnotn (.d .non) (.d .non) hp K := h
theorem c_isnotNF {x : Rat} (h : K true) : opCmp .isnotn (.d (frR x)) (.d .non) hp K := h
theorem c_eqB {b c : Bool} (h : K (decide (c = b))) : opCmp .eq (.d (.bl c)) (.d (.bl b)) hp K := by
  show min (PyData.bool c).depth (PyData.bool b).depth ≤ 64 ∧ K (PyData.eqv (.bool c) (.bool b))
  refine ⟨by simp [PyData.depth], ?_⟩
  have e : PyData.eqv (.bool c) (.bool b) = decide (c = b) := by cases b <;> cases c <;> simp [PyData.eqv]
  rw [e]; exact h
theorem c_neB {b c : Bool} (h : K (!decide (c = b))) : opCmp .ne (.d (.bl c)) (.d (.bl b)) hp K := c_eqB (K := fun b => K (!b)) h
theorem c_neOl {l m : List D} {a b : List PyData} (hl : D.pds l = some a) (hm : D.pds m = some b) (hd : min (PyData.list a).depth (PyData.list b).depth ≤ 64) (h : K (!PyData.eqvAll a b)) : opCmp .ne (.ol l) (.ol m) hp K := by
  show onSome ((D.pds l).map PyData.list) fun a => onSome ((D.pds m).map PyData.list) fun b => min a.depth b.depth ≤ 64 ∧ K (!PyData.eqv a b)
  rw [hl, hm]
  exact ⟨hd, by show K (!PyData.eqv (.list a) (.list b)); simp only [PyData.eqv]; exact h⟩
theorem c_notinF2 {x y z : Rat} (h : K (!(decide (x = z) || decide (y = z)))) : opCmp .notin (.d (frR z)) (.d (.tup [frR x, frR y])) hp K := by
  show (PyData.tuple [.int z.num, .int (z.den : Int)]).depth ≤ 60 ∧ K (!(([PyData.tuple [.int x.num, .int (x.den : Int)], .tuple [.int y.num, .int (y.den : Int)]] : List PyData).any fun b => PyData.eqv b (.tuple [.int z.num, .int (z.den : Int)])))
  rw [depth_fr]
  refine ⟨by decide, ?_⟩
  simp only [List.any_cons, List.any_nil, Bool.or_false, eqv_fr]
  exact h
theorem if_NT {A C : Prop} (h : C) : if (!true) = true then A else C := h
theorem if_NF {A C : Prop} (h : A) : if (!false) = true then A else C := h
theorem bin_ol {l m : List D} (h1 : l.length + m.length ≤ sizeLine) (h : Q (.ol (l ++ m)) hp) : opBin .add (.ol l) (.ol m) hp Q := ⟨h1, h⟩
end
theorem cut_to {α : Type} {l : List α} {n : Nat} (h : n ≤ l.length) : cut l none (some (n : Int)) = l.take n := by
  unfold cut
  rw [HT.sIx_nat]
  show (l.drop 0).take (min n l.length - 0) = _
  rw [List.drop_zero, Nat.sub_zero, Nat.min_eq_left h]
theorem cut_from {α : Type} {l : List α} {n : Nat} (h : n ≤ l.length) : cut l (some (n : Int)) none = l.drop n := by
  unfold cut
  rw [HT.sIx_nat, Nat.min_eq_left h]
  show (l.drop n).take (l.length - n) = _
  exact List.take_of_length_le (by rw [List.length_drop]; omega)
end Mi

open PySem PySem.Spec PyProof.Rows L2 Mi in
local macro_rules | `(tactic| expose_names) => `(tactic| (repeat (first | with_reducible refine w_rais ?_ | with_reducible refine r_calld ?_ | with_reducible refine w_nil ?_ | with_reducible refine w_cons ?_ | with_reducible refine w_asg ?_ | with_reducible refine w_par ?_ | with_reducible refine w_aug ?_ | with_reducible refine w_augS ?_ | with_reducible refine w_expr ?_ | with_reducible refine w_app ?_ | with_reducible refine w_ext ?_ | with_reducible refine w_ite ?_ | with_reducible refine w_ret ?_ | with_reducible refine w_retN ?_ | with_reducible refine w_brk ?_ | with_reducible refine w_cont ?_ | with_reducible refine w_pass ?_ | with_reducible refine g_s ?_ | with_reducible refine gs_n ?_ | with_reducible refine gs_c ?_ | with_reducible refine r_int ?_ | with_reducible refine r_bl ?_ | with_reducible refine r_non ?_ | with_reducible refine r_str ?_ | with_reducible refine r_tup ?_ | with_reducible refine r_lst ?_ | with_reducible refine r_bin ?_ | with_reducible refine r_neg ?_ | with_reducible refine r_no ?_ | with_reducible refine r_an ?_ | with_reducible refine r_oo ?_ | with_reducible refine r_ite ?_ | with_reducible refine r_cmp ?_ | with_reducible refine r_cmp2 ?_ | with_reducible refine r_ix ?_ | with_reducible refine r_sl ?_ | with_reducible refine r_call ?_ | with_reducible refine r_b1 ?_ | with_reducible refine r_b2 ?_ | with_reducible refine r_isi ?_ | with_reducible refine r_rf ?_ | with_reducible refine r_vl ?_ | with_reducible refine r_back ?_ | with_reducible refine r_m1 ?_ | with_reducible refine r_m0 ?_ | with_reducible refine r_o1 ?_ | with_reducible refine r_o2 ?_ | with_reducible refine r_o3 ?_ | with_reducible refine r_dct ?_ | with_reducible refine rd_dx ?_ | with_reducible refine r_tin ?_ | with_reducible refine r_tix ?_ | with_reducible refine t_str ?_ | with_reducible refine g_ds ?_ | with_reducible refine bk_T ?_ | with_reducible refine li_T ?_ | with_reducible refine o_addB ?_ | with_reducible refine o_subB ?_ | with_reducible refine o_subIB ?_ | with_reducible refine o_mulIB ?_ | with_reducible refine o_negB ?_ | with_reducible refine o_negI ?_ | with_reducible refine a_nil ?_ | with_reducible refine a_cons ?_ | with_reducible refine q_nil ?_ | with_reducible refine q_cons ?_ | with_reducible refine p_non ?_ | with_reducible refine t_bl ?_ | with_reducible refine t_int ?_ | with_reducible refine t_d ?_ | with_reducible refine t_ol ?_ | with_reducible refine t_as ?_ | with_reducible refine t_asl ?_ | with_reducible refine o_add ?_ | with_reducible refine o_sub ?_ | with_reducible refine c_eqI ?_ | with_reducible refine c_eqS ?_ | with_reducible refine c_neI ?_ | with_reducible refine c_neS ?_ | with_reducible refine c_ltI ?_ | with_reducible refine c_leI ?_ | with_reducible refine c_gtI ?_ | with_reducible refine c_geI ?_ | with_reducible refine l_lst ?_ | with_reducible refine l_tup ?_ | with_reducible refine l_ol ?_ | with_reducible refine tu_ol ?_ | with_reducible refine sl_lst ?_ | with_reducible refine sl_tup ?_ | with_reducible refine sl_ol ?_ | with_reducible refine mn2 ?_ | with_reducible refine mx2 ?_ | with_reducible refine n_i ?_ | with_reducible refine n_st ?_ | with_reducible refine an_i ?_ | with_reducible refine an_s ?_ | with_reducible refine if_T ?_ | with_reducible refine if_F ?_ | with_reducible refine c_nilL ?_ | ((with_reducible refine w_fz rfl ?_); try dsimp only [List.set]) | ((with_reducible refine g_n ?_); try dsimp only [List.set]) | with_reducible refine g_t rfl ?_ | with_reducible refine w_retV (slotK_iff.mpr ⟨_, rfl, ?_⟩) | with_reducible refine r_vd rfl ?_ | with_reducible refine b_v rfl ?_ | with_reducible refine b_ne rfl ?_ | with_reducible refine p_some rfl ?_ | with_reducible refine slotK_iff.mpr ⟨_, rfl, ?_⟩ | with_reducible refine m_r rfl ?_ | with_reducible refine m_z rfl ?_ | (with_reducible refine And.intro updD_same ?_; try simp only [updD_updD, List.set, Int.reduceToNat]) | with_reducible refine x_ref rfl ?_ | with_reducible refine x_tup rfl ?_ | with_reducible refine x_lst rfl ?_ | with_reducible refine x_ol rfl ?_ | ((with_reducible refine os rfl ?_); try dsimp only [List.set]) | with_reducible refine ⟨trivial, ?_⟩ | ((with_reducible refine ap_lt ?s ?_); (case s => first | assumption | (simp only [List.length_cons, List.length_nil, List.length_append]; decide)); try dsimp only [List.set, List.cons_append, List.nil_append]) | ((with_reducible refine ap_le ?s ?_); (case s => first | assumption | (simp only [List.length_cons, List.length_nil, List.length_append]; decide)); try dsimp only [List.set, List.cons_append, List.nil_append]) | ((with_reducible refine o_mul ?s ?_); case s => first | assumption | exact Bd.cmul (by first | assumption | exact Bd.mod (a := 40) (by decide) | exact Bd.const (a := 40) (by decide) | exact Bd.mul (by first | assumption | exact Bd.const (a := 40) (by decide)) (by assumption) | exact Bd.add (by first | assumption | exact Bd.mod (a := 40) (by decide)) (by first | assumption | exact Bd.mod (a := 40) (by decide))) (by first | assumption | exact Bd.mod (a := 40) (by decide) | exact Bd.const (a := 40) (by decide) | exact Bd.mul (by first | assumption | exact Bd.const (a := 40) (by decide)) (by assumption) | exact Bd.add (by first | assumption | exact Bd.mod (a := 40) (by decide)) (by first | assumption | exact Bd.mod (a := 40) (by decide))) (by omega)) | ((with_reducible refine o_div ?s ?_); case s => first | assumption | exact Bd.cdiv (by first | assumption | exact Bd.mod (a := 40) (by decide) | exact Bd.const (a := 40) (by decide) | exact Bd.mul (by first | assumption | exact Bd.const (a := 40) (by decide)) (by assumption) | exact Bd.add (by first | assumption | exact Bd.mod (a := 40) (by decide)) (by first | assumption | exact Bd.mod (a := 40) (by decide))) (by first | assumption | decide | omega) (by omega)) | ((with_reducible refine o_mod ?s ?_); case s => first | assumption | decide | omega) | ((with_reducible refine o_pow ?s ?_); case s => exact ⟨by decide, by decide, by decide⟩) | with_reducible refine c_isB ?_ | with_reducible refine c_isnotB ?_ | with_reducible refine c_isNN ?_ | with_reducible refine c_isNF ?_ | with_reducible refine c_isnotNN ?_ | with_reducible refine c_isnotNF ?_ | with_reducible refine c_eqB ?_ | with_reducible refine c_neB ?_ | with_reducible refine c_notinF2 ?_ | with_reducible refine if_NT ?_ | with_reducible refine if_NF ?_ | with_reducible refine c_eqF ?_ | with_reducible refine c_neF ?_ | with_reducible refine x_fr0 ?_ | with_reducible refine x_fr1 ?_)))
open PySem PySem.Spec PyProof.Rows L2 Mi in
local macro_rules | `(tactic| bv_omega) => `(tactic| (repeat (first | with_reducible refine w_rais ?_ | with_reducible refine r_calld ?_ | with_reducible refine w_nil ?_ | with_reducible refine w_asg ?_ | with_reducible refine w_par ?_ | with_reducible refine w_aug ?_ | with_reducible refine w_augS ?_ | with_reducible refine w_expr ?_ | with_reducible refine w_app ?_ | with_reducible refine w_ext ?_ | with_reducible refine w_ite ?_ | with_reducible refine w_ret ?_ | with_reducible refine w_retN ?_ | with_reducible refine w_brk ?_ | with_reducible refine w_cont ?_ | with_reducible refine w_pass ?_ | with_reducible refine g_s ?_ | with_reducible refine gs_n ?_ | with_reducible refine gs_c ?_ | with_reducible refine r_int ?_ | with_reducible refine r_bl ?_ | with_reducible refine r_non ?_ | with_reducible refine r_str ?_ | with_reducible refine r_tup ?_ | with_reducible refine r_lst ?_ | with_reducible refine r_bin ?_ | with_reducible refine r_neg ?_ | with_reducible refine r_no ?_ | with_reducible refine r_an ?_ | with_reducible refine r_oo ?_ | with_reducible refine r_ite ?_ | with_reducible refine r_cmp ?_ | with_reducible refine r_cmp2 ?_ | with_reducible refine r_ix ?_ | with_reducible refine r_sl ?_ | with_reducible refine r_call ?_ | with_reducible refine r_b1 ?_ | with_reducible refine r_b2 ?_ | with_reducible refine r_isi ?_ | with_reducible refine r_rf ?_ | with_reducible refine r_vl ?_ | with_reducible refine r_back ?_ | with_reducible refine r_m1 ?_ | with_reducible refine r_m0 ?_ | with_reducible refine r_o1 ?_ | with_reducible refine r_o2 ?_ | with_reducible refine r_o3 ?_ | with_reducible refine r_dct ?_ | with_reducible refine rd_dx ?_ | with_reducible refine r_tin ?_ | with_reducible refine r_tix ?_ | with_reducible refine t_str ?_ | with_reducible refine g_ds ?_ | with_reducible refine bk_T ?_ | with_reducible refine li_T ?_ | with_reducible refine o_addB ?_ | with_reducible refine o_subB ?_ | with_reducible refine o_subIB ?_ | with_reducible refine o_mulIB ?_ | with_reducible refine o_negB ?_ | with_reducible refine o_negI ?_ | with_reducible refine a_nil ?_ | with_reducible refine a_cons ?_ | with_reducible refine q_nil ?_ | with_reducible refine q_cons ?_ | with_reducible refine p_non ?_ | with_reducible refine t_bl ?_ | with_reducible refine t_int ?_ | with_reducible refine t_d ?_ | with_reducible refine t_ol ?_ | with_reducible refine t_as ?_ | with_reducible refine t_asl ?_ | with_reducible refine o_add ?_ | with_reducible refine o_sub ?_ | with_reducible refine c_eqI ?_ | with_reducible refine c_eqS ?_ | with_reducible refine c_neI ?_ | with_reducible refine c_neS ?_ | with_reducible refine c_ltI ?_ | with_reducible refine c_leI ?_ | with_reducible refine c_gtI ?_ | with_reducible refine c_geI ?_ | with_reducible refine l_lst ?_ | with_reducible refine l_tup ?_ | with_reducible refine l_ol ?_ | with_reducible refine tu_ol ?_ | with_reducible refine sl_lst ?_ | with_reducible refine sl_tup ?_ | with_reducible refine sl_ol ?_ | with_reducible refine mn2 ?_ | with_reducible refine mx2 ?_ | with_reducible refine n_i ?_ | with_reducible refine n_st ?_ | with_reducible refine an_i ?_ | with_reducible refine an_s ?_ | with_reducible refine if_T ?_ | with_reducible refine if_F ?_ | with_reducible refine c_nilL ?_ | ((with_reducible refine w_fz rfl ?_); try dsimp only [List.set]) | ((with_reducible refine g_n ?_); try dsimp only [List.set]) | with_reducible refine g_t rfl ?_ | with_reducible refine w_retV (slotK_iff.mpr ⟨_, rfl, ?_⟩) | with_reducible refine r_vd rfl ?_ | with_reducible refine b_v rfl ?_ | with_reducible refine b_ne rfl ?_ | with_reducible refine p_some rfl ?_ | with_reducible refine slotK_iff.mpr ⟨_, rfl, ?_⟩ | with_reducible refine m_r rfl ?_ | with_reducible refine m_z rfl ?_ | (with_reducible refine And.intro updD_same ?_; try simp only [updD_updD, List.set, Int.reduceToNat]) | with_reducible refine x_ref rfl ?_ | with_reducible refine x_tup rfl ?_ | with_reducible refine x_lst rfl ?_ | with_reducible refine x_ol rfl ?_ | ((with_reducible refine os rfl ?_); try dsimp only [List.set]) | with_reducible refine ⟨trivial, ?_⟩ | ((with_reducible refine ap_lt ?s ?_); (case s => first | assumption | (simp only [List.length_cons, List.length_nil, List.length_append]; decide)); try dsimp only [List.set, List.cons_append, List.nil_append]) | ((with_reducible refine ap_le ?s ?_); (case s => first | assumption | (simp only [List.length_cons, List.length_nil, List.length_append]; decide)); try dsimp only [List.set, List.cons_append, List.nil_append]) | ((with_reducible refine o_mul ?s ?_); case s => first | assumption | exact Bd.cmul (by first | assumption | exact Bd.mod (a := 40) (by decide) | exact Bd.const (a := 40) (by decide) | exact Bd.mul (by first | assumption | exact Bd.const (a := 40) (by decide)) (by assumption) | exact Bd.add (by first | assumption | exact Bd.mod (a := 40) (by decide)) (by first | assumption | exact Bd.mod (a := 40) (by decide))) (by first | assumption | exact Bd.mod (a := 40) (by decide) | exact Bd.const (a := 40) (by decide) | exact Bd.mul (by first | assumption | exact Bd.const (a := 40) (by decide)) (by assumption) | exact Bd.add (by first | assumption | exact Bd.mod (a := 40) (by decide)) (by first | assumption | exact Bd.mod (a := 40) (by decide))) (by omega)) | ((with_reducible refine o_div ?s ?_); case s => first | assumption | exact Bd.cdiv (by first | assumption | exact Bd.mod (a := 40) (by decide) | exact Bd.const (a := 40) (by decide) | exact Bd.mul (by first | assumption | exact Bd.const (a := 40) (by decide)) (by assumption) | exact Bd.add (by first | assumption | exact Bd.mod (a := 40) (by decide)) (by first | assumption | exact Bd.mod (a := 40) (by decide))) (by first | assumption | decide | omega) (by omega)) | ((with_reducible refine o_mod ?s ?_); case s => first | assumption | decide | omega) | ((with_reducible refine o_pow ?s ?_); case s => exact ⟨by decide, by decide, by decide⟩) | with_reducible refine c_isB ?_ | with_reducible refine c_isnotB ?_ | with_reducible refine c_isNN ?_ | with_reducible refine c_isNF ?_ | with_reducible refine c_isnotNN ?_ | with_reducible refine c_isnotNF ?_ | with_reducible refine c_eqB ?_ | with_reducible refine c_neB ?_ | with_reducible refine c_notinF2 ?_ | with_reducible refine if_NT ?_ | with_reducible refine if_NF ?_ | with_reducible refine c_eqF ?_ | with_reducible refine c_neF ?_ | with_reducible refine x_fr0 ?_ | with_reducible refine x_fr1 ?_)))
namespace Mi
open PySem PySem.Spec PyProof.Rows L2
/-! ### how long a value's text is, how deep it is -/
mutual
def tl : D → Nat
  | .non => 4
  | .bl _ => 5
  | .int i => i.natAbs.log2 + 3
  | .str s => 10 * s.length + 2
  | .tup l => tls l + 3
  | .lst l => tls l + 3
  | .ref _ => 0
  | .fn _ => 0
def tls : List D → Nat
  | [] => 0
  | x :: r => tl x + 2 + tls r
end
mutual
/-- plain; its numbers have less than n bits -/
def okN (n : Nat) : D → Bool
  | .non => true
  | .bl _ => true
  | .int i => decide (i.natAbs.log2 < n)
  | .str s => PyData.strOk s
  | .tup l => okNs n l
  | .lst l => okNs n l
  | .ref _ => false
  | .fn _ => false
def okNs (n : Nat) : List D → Bool
  | [] => true
  | x :: r => okN n x && okNs n r
end
mutual
def dpD : D → Nat
  | .tup l => dpDs l + 1
  | .lst l => dpDs l + 1
  | _ => 0
def dpDs : List D → Nat
  | [] => 0
  | x :: r => max (dpD x) (dpDs r)
end
theorem okNs_iff {n : Nat} : ∀ {l : List D}, okNs n l = true ↔ ∀ x ∈ l, okN n x = true
  | [] => by simp [okNs]
  | x :: r => by simp [okNs, okNs_iff (l := r)]
theorem dpDs_le {m : Nat} : ∀ {l : List D}, dpDs l ≤ m ↔ ∀ x ∈ l, dpD x ≤ m
  | [] => by simp [dpDs]
  | x :: r => by simp [dpDs, Nat.max_le, dpDs_le (l := r)]
theorem tls_app : ∀ (l m : List D), tls (l ++ m) = tls l + tls m
  | [], m => by simp [tls]
  | x :: r, m => by simp only [List.cons_append, tls, tls_app r m]; omega
theorem tls_len : ∀ l : List D, 2 * l.length ≤ tls l
  | [] => by simp [tls]
  | x :: r => by have := tls_len r; simp only [tls, List.length_cons]; omega
theorem tls_mem : ∀ {l : List D} {x : D}, x ∈ l → tl x + 2 ≤ tls l
  | y :: r, x, h => by
    simp only [tls]
    rcases List.mem_cons.mp h with e | h
    · rw [e]; omega
    · have := tls_mem h; omega
theorem tls_take (l : List D) (n : Nat) : tls (l.take n) ≤ tls l := by
  have := tls_app (l.take n) (l.drop n)
  rw [List.take_append_drop] at this; omega
theorem tls_drop (l : List D) (n : Nat) : tls (l.drop n) ≤ tls l := by
  have := tls_app (l.take n) (l.drop n)
  rw [List.take_append_drop] at this; omega
theorem tls_split {l : List D} {n : Nat} {x : D} (h : l[n]? = some x) : tls (l.take n) + (tl x + 2) + tls (l.drop (n + 1)) = tls l := by
  obtain ⟨hn, e⟩ := List.getElem?_eq_some_iff.mp h
  have h1 := tls_app (l.take n) (l.drop n)
  rw [List.take_append_drop, List.drop_eq_getElem_cons hn, e] at h1
  simp only [tls] at h1
  omega
mutual
theorem okN_le {m n : Nat} (h : m ≤ n) : ∀ {x : D}, okN m x = true → okN n x = true
  | .non, _ => rfl
  | .bl _, _ => rfl
  | .int i, e => by simp only [okN, decide_eq_true_eq] at e ⊢; omega
  | .str s, e => e
  | .tup l, e => okNs_le h (l := l) e
  | .lst l, e => okNs_le h (l := l) e
  | .ref _, e => by cases e
  | .fn _, e => by cases e
theorem okNs_le {m n : Nat} (h : m ≤ n) : ∀ {l : List D}, okNs m l = true → okNs n l = true
  | [], _ => rfl
  | x :: r, e => by
    simp only [okNs, Bool.and_eq_true] at e ⊢
    exact ⟨okN_le h e.1, okNs_le h e.2⟩
end
mutual
theorem okN_pl {n : Nat} : ∀ {x : D}, okN n x = true → plD x = true
  | .non, _ => rfl
  | .bl _, _ => rfl
  | .int i, e => rfl
  | .str s, e => rfl
  | .tup l, e => okNs_pl (l := l) e
  | .lst l, e => okNs_pl (l := l) e
  | .ref _, e => by cases e
  | .fn _, e => by cases e
theorem okNs_pl {n : Nat} : ∀ {l : List D}, okNs n l = true → plDs l = true
  | [], _ => rfl
  | x :: r, e => by
    simp only [okNs, plDs, Bool.and_eq_true] at e ⊢
    exact ⟨okN_pl e.1, okNs_pl e.2⟩
end
theorem strOk_lt {s : Str} (h : PyData.strOk s = true) : ∀ c ∈ s.cps.toList, c < 16 ^ 8 := fun c hc => by
  have h2 : s.cps.all (· < 0x110000) = true := h
  rw [Array.all_eq_true'] at h2
  have := h2 c (by simpa using hc)
  have : c < 0x110000 := by simpa using this
  omega
mutual
theorem show_ok {n : Nat} (hn : n ≤ 1900) : ∀ {x : D}, okN n x = true → ∃ d, x.pd = some d ∧ d.depth = dpD x ∧ d.showable = true ∧ d.shown.length ≤ tl x
  | .non, _ => ⟨.none, rfl, rfl, rfl, by decide⟩
  | .bl b, _ => ⟨.bool b, rfl, rfl, rfl, by cases b <;> decide⟩
  | .int i, h => by
    simp only [okN, decide_eq_true_eq] at h
    refine ⟨.int i, rfl, rfl, by simp only [PyData.showable]; exact decide_eq_true (by omega), ?_⟩
    have e := int_text_length_le (a := i) (k := i.natAbs.log2 + 1) (by omega) (by omega)
    show (Str.ofString (toString i)).length ≤ _
    rw [PySem.ofString_length]
    simp only [tl]; omega
  | .str s, h => by
    have h' : PyData.strOk s = true := h
    refine ⟨.str s, by simp only [D.pd]; rw [if_pos h'], rfl, rfl, ?_⟩
    have := StrLaws.reprText_len s (strOk_lt h')
    simp only [PyData.shown, tl]; exact this
  | .tup l, h => by
    obtain ⟨ds, e, h1, h2, h3, h4⟩ := shows_ok hn (l := l) h
    refine ⟨.tuple ds, by simp only [D.pd]; rw [e]; rfl, by simp only [PyData.depth, dpD]; omega, by simp only [PyData.showable]; exact h2, ?_⟩
    have := tupleText_len_le (PyData.shownAll ds)
    simp only [PyData.shown, tl]; omega
  | .lst l, h => by
    obtain ⟨ds, e, h1, h2, h3, h4⟩ := shows_ok hn (l := l) h
    refine ⟨.list ds, by simp only [D.pd]; rw [e]; rfl, by simp only [PyData.depth, dpD]; omega, by simp only [PyData.showable]; exact h2, ?_⟩
    have := listText_len_le (PyData.shownAll ds)
    simp only [PyData.shown, tl]; omega
  | .ref _, e => by cases e
  | .fn _, e => by cases e
theorem shows_ok {n : Nat} (hn : n ≤ 1900) : ∀ {l : List D}, okNs n l = true → ∃ ds, D.pds l = some ds ∧ PyData.depthAll ds = dpDs l ∧ PyData.showableAll ds = true ∧ (PyData.shownAll ds).length = l.length ∧ ((PyData.shownAll ds).map (·.length)).sum + 2 * (PyData.shownAll ds).length ≤ tls l
  | [], _ => ⟨[], rfl, rfl, rfl, rfl, by simp [PyData.shownAll, tls]⟩
  | x :: r, h => by
    simp only [okNs, Bool.and_eq_true] at h
    obtain ⟨d, e, h1, h2, h3⟩ := show_ok hn h.1
    obtain ⟨ds, e', g1, g2, g3, g4⟩ := shows_ok hn h.2
    refine ⟨d :: ds, by simp only [D.pds, e, e'], by simp only [PyData.depthAll, dpDs]; omega, by simp only [PyData.showableAll, h2, g2, Bool.and_self], by simp only [PyData.shownAll, List.length_cons]; omega, ?_⟩
    simp only [PyData.shownAll, List.map_cons, List.sum_cons, List.length_cons, tls]; omega
end
theorem okN_pd {n : Nat} (hn : n ≤ 1900) {x : D} (h : okN n x = true) : ∃ d, x.pd = some d ∧ d.depth = dpD x := let ⟨d, e, h1, _⟩ := show_ok hn h; ⟨d, e, h1⟩
theorem okN_sv {n : Nat} (hn : n ≤ 1900) {hp : HpD} {x : D} (h : okN n x = true) : ∃ d, svPd hp (.d x) = some d ∧ x.pd = some d ∧ d.depth = dpD x := by
  obtain ⟨d, e, h1⟩ := okN_pd hn h
  refine ⟨d, ?_, e, h1⟩
  cases x <;> first | exact e | cases h
section
variable {hp : HpD} {K : Bool → Prop} {Q : SK}
theorem rp_x {n : Nat} {x : D} (h : okN n x = true) (hn : n ≤ 1900) (hz : tl x ≤ sizeLine) (hd : dpD x ≤ 64) (q : Q (.d (.str (reprD x))) hp) : opB1 .repr (.d x) hp Q := by
  obtain ⟨d, e, h1, h2, h3⟩ := show_ok hn h
  obtain ⟨d', e', e2, _⟩ := okN_sv (hp := hp) hn h
  rw [e] at e2; cases e2
  have e3 : reprD x = d.shown := by unfold reprD; rw [e]
  rw [e3] at q
  exact onSome_iff.mpr ⟨d, e', by omega, h2, by omega, q⟩
theorem rp_xl {n : Nat} {l : List D} (h : okNs n l = true) (hn : n ≤ 1900) (hz : tls l + 3 ≤ sizeLine) (hd : dpDs l + 1 ≤ 64) (q : Q (.d (.str (reprD (.lst l)))) hp) : opB1 .repr (.ol l) hp Q := by
  obtain ⟨ds, e, h1, h2, h3⟩ := show_ok hn (x := .lst l) h
  have e3 : reprD (.lst l) = ds.shown := by unfold reprD; rw [e]
  rw [e3] at q
  simp only [dpD, tl] at h1 h3
  exact onSome_iff.mpr ⟨ds, e, by omega, h2, by omega, q⟩
theorem isi_any {t : Ty} {x : SV} {b : Bool} (e : isTy hp t x = some b) (h : K b) : onSome (isTy hp t x) K := by rw [e]; exact h
theorem isi_T {t : Ty} {x : SV} (e : isTy hp t x = some true) (h : K true) : onSome (isTy hp t x) K := by rw [e]; exact h
theorem isi_F {t : Ty} {x : SV} (e : isTy hp t x = some false) (h : K false) : onSome (isTy hp t x) K := by rw [e]; exact h
theorem c_eqNil {l : List D} {ds : List PyData} (e : D.pds l = some ds) (h : K (decide (l = []))) : opCmp .eq (.d (.tup l)) (.d (.tup [])) hp K := by
  show onSome ((D.pds l).map PyData.tuple) fun a => onSome ((D.pds []).map PyData.tuple) fun b => min a.depth b.depth ≤ 64 ∧ K (PyData.eqv a b)
  rw [e]
  refine ⟨Nat.le_trans (Nat.min_le_right _ _) (by decide), ?_⟩
  have z : PyData.eqv (.tuple ds) (.tuple []) = decide (l = []) := by
    cases l with
    | nil => cases e; rfl
    | cons x r =>
      simp only [D.pds] at e
      split at e
      · cases e; rfl
      · cases e
  show K (PyData.eqv (.tuple ds) (.tuple []))
  rw [z]; exact h
theorem c_neNil {l : List D} {ds : List PyData} (e : D.pds l = some ds) (h : K (!decide (l = []))) : opCmp .ne (.d (.tup l)) (.d (.tup [])) hp K := c_eqNil (K := fun b => K (!b)) e h
end
end Mi

open PySem PySem.Spec PyProof.Rows L2 Mi in
local macro_rules | `(tactic| expose_names) => `(tactic| (repeat (first | with_reducible refine w_rais ?_ | with_reducible refine r_calld ?_ | with_reducible refine w_nil ?_ | with_reducible refine w_cons ?_ | with_reducible refine w_asg ?_ | with_reducible refine w_par ?_ | with_reducible refine w_aug ?_ | with_reducible refine w_augS ?_ | with_reducible refine w_expr ?_ | with_reducible refine w_app ?_ | with_reducible refine w_ext ?_ | with_reducible refine w_ite ?_ | with_reducible refine w_ret ?_ | with_reducible refine w_retN ?_ | with_reducible refine w_brk ?_ | with_reducible refine w_cont ?_ | with_reducible refine w_pass ?_ | with_reducible refine g_s ?_ | with_reducible refine gs_n ?_ | with_reducible refine gs_c ?_ | with_reducible refine r_int ?_ | with_reducible refine r_bl ?_ | with_reducible refine r_non ?_ | with_reducible refine r_str ?_ | with_reducible refine r_tup ?_ | with_reducible refine r_lst ?_ | with_reducible refine r_bin ?_ | with_reducible refine r_neg ?_ | with_reducible refine r_no ?_ | with_reducible refine r_an ?_ | with_reducible refine r_oo ?_ | with_reducible refine r_ite ?_ | with_reducible refine r_cmp ?_ | with_reducible refine r_cmp2 ?_ | with_reducible refine r_ix ?_ | with_reducible refine r_sl ?_ | with_reducible refine r_call ?_ | with_reducible refine r_b1 ?_ | with_reducible refine r_b2 ?_ | with_reducible refine r_isi ?_ | with_reducible refine r_rf ?_ | with_reducible refine r_vl ?_ | with_reducible refine r_back ?_ | with_reducible refine r_m1 ?_ | with_reducible refine r_m0 ?_ | with_reducible refine r_o1 ?_ | with_reducible refine r_o2 ?_ | with_reducible refine r_o3 ?_ | with_reducible refine r_dct ?_ | with_reducible refine rd_dx ?_ | with_reducible refine r_tin ?_ | with_reducible refine r_tix ?_ | with_reducible refine t_str ?_ | with_reducible refine g_ds ?_ | with_reducible refine bk_T ?_ | with_reducible refine li_T ?_ | with_reducible refine o_addB ?_ | with_reducible refine o_subB ?_ | with_reducible refine o_subIB ?_ | with_reducible refine o_mulIB ?_ | with_reducible refine o_negB ?_ | with_reducible refine o_negI ?_ | with_reducible refine a_nil ?_ | with_reducible refine a_cons ?_ | with_reducible refine q_nil ?_ | with_reducible refine q_cons ?_ | with_reducible refine p_non ?_ | with_reducible refine t_bl ?_ | with_reducible refine t_int ?_ | with_reducible refine t_d ?_ | with_reducible refine t_ol ?_ | with_reducible refine t_as ?_ | with_reducible refine t_asl ?_ | with_reducible refine o_add ?_ | with_reducible refine o_sub ?_ | with_reducible refine c_eqI ?_ | with_reducible refine c_eqS ?_ | with_reducible refine c_neI ?_ | with_reducible refine c_neS ?_ | with_reducible refine c_ltI ?_ | with_reducible refine c_leI ?_ | with_reducible refine c_gtI ?_ | with_reducible refine c_geI ?_ | with_reducible refine l_lst ?_ | with_reducible refine l_tup ?_ | with_reducible refine l_ol ?_ | with_reducible refine tu_ol ?_ | with_reducible refine sl_lst ?_ | with_reducible refine sl_tup ?_ | with_reducible refine sl_ol ?_ | with_reducible refine mn2 ?_ | with_reducible refine mx2 ?_ | with_reducible refine n_i ?_ | with_reducible refine n_st ?_ | with_reducible refine an_i ?_ | with_reducible refine an_s ?_ | with_reducible refine if_T ?_ | with_reducible refine if_F ?_ | with_reducible refine c_nilL ?_ | ((with_reducible refine w_fz rfl ?_); try dsimp only [List.set]) | ((with_reducible refine g_n ?_); try dsimp only [List.set]) | with_reducible refine g_t rfl ?_ | with_reducible refine w_retV (slotK_iff.mpr ⟨_, rfl, ?_⟩) | with_reducible refine r_vd rfl ?_ | with_reducible refine b_v rfl ?_ | with_reducible refine b_ne rfl ?_ | with_reducible refine p_some rfl ?_ | with_reducible refine slotK_iff.mpr ⟨_, rfl, ?_⟩ | with_reducible refine m_r rfl ?_ | with_reducible refine m_z rfl ?_ | (with_reducible refine And.intro updD_same ?_; try simp only [updD_updD, List.set, Int.reduceToNat]) | with_reducible refine x_ref rfl ?_ | with_reducible refine x_tup rfl ?_ | with_reducible refine x_lst rfl ?_ | with_reducible refine x_ol rfl ?_ | ((with_reducible refine isi_T ?e ?_); (case e => exact rfl)) | ((with_reducible refine isi_F ?e ?_); (case e => exact rfl)) | ((with_reducible refine r_g (d := ?d) ?e ?_); (case e => exact rfl)) | ((with_reducible refine os rfl ?_); try dsimp only [List.set]) | with_reducible refine ⟨trivial, ?_⟩ | ((with_reducible refine ap_lt ?s ?_); (case s => first | assumption | (simp only [List.length_cons, List.length_nil, List.length_append]; decide)); try dsimp only [List.set, List.cons_append, List.nil_append]) | ((with_reducible refine ap_le ?s ?_); (case s => first | assumption | (simp only [List.length_cons, List.length_nil, List.length_append]; decide)); try dsimp only [List.set, List.cons_append, List.nil_append]) | ((with_reducible refine o_mul ?s ?_); case s => first | assumption | exact Bd.cmul (by first | assumption | exact Bd.mod (a := 40) (by decide) | exact Bd.const (a := 40) (by decide) | exact Bd.mul (by first | assumption | exact Bd.const (a := 40) (by decide)) (by assumption) | exact Bd.add (by first | assumption | exact Bd.mod (a := 40) (by decide)) (by first | assumption | exact Bd.mod (a := 40) (by decide))) (by first | assumption | exact Bd.mod (a := 40) (by decide) | exact Bd.const (a := 40) (by decide) | exact Bd.mul (by first | assumption | exact Bd.const (a := 40) (by decide)) (by assumption) | exact Bd.add (by first | assumption | exact Bd.mod (a := 40) (by decide)) (by first | assumption | exact Bd.mod (a := 40) (by decide))) (by omega)) | ((with_reducible refine o_div ?s ?_); case s => first | assumption | exact Bd.cdiv (by first | assumption | exact Bd.mod (a := 40) (by decide) | exact Bd.const (a := 40) (by decide) | exact Bd.mul (by first | assumption | exact Bd.const (a := 40) (by decide)) (by assumption) | exact Bd.add (by first | assumption | exact Bd.mod (a := 40) (by decide)) (by first | assumption | exact Bd.mod (a := 40) (by decide))) (by first | assumption | decide | omega) (by omega)) | ((with_reducible refine o_mod ?s ?_); case s => first | assumption | decide | omega) | ((with_reducible refine o_pow ?s ?_); case s => exact ⟨by decide, by decide, by decide⟩) | with_reducible refine c_isB ?_ | with_reducible refine c_isnotB ?_ | with_reducible refine c_isNN ?_ | with_reducible refine c_isNF ?_ | with_reducible refine c_isnotNN ?_ | with_reducible refine c_isnotNF ?_ | with_reducible refine c_eqB ?_ | with_reducible refine c_neB ?_ | with_reducible refine c_notinF2 ?_ | with_reducible refine if_NT ?_ | with_reducible refine if_NF ?_ | with_reducible refine c_eqF ?_ | with_reducible refine c_neF ?_ | with_reducible refine x_fr0 ?_ | with_reducible refine x_fr1 ?_)))
open PySem PySem.Spec PyProof.Rows L2 Mi in
local macro_rules | `(tactic| bv_omega) => `(tactic| (repeat (first | with_reducible refine w_rais ?_ | with_reducible refine r_calld ?_ | with_reducible refine w_nil ?_ | with_reducible refine w_asg ?_ | with_reducible refine w_par ?_ | with_reducible refine w_aug ?_ | with_reducible refine w_augS ?_ | with_reducible refine w_expr ?_ | with_reducible refine w_app ?_ | with_reducible refine w_ext ?_ | with_reducible refine w_ite ?_ | with_reducible refine w_ret ?_ | with_reducible refine w_retN ?_ | with_reducible refine w_brk ?_ | with_reducible refine w_cont ?_ | with_reducible refine w_pass ?_ | with_reducible refine g_s ?_ | with_reducible refine gs_n ?_ | with_reducible refine gs_c ?_ | with_reducible refine r_int ?_ | with_reducible refine r_bl ?_ | with_reducible refine r_non ?_ | with_reducible refine r_str ?_ | with_reducible refine r_tup ?_ | with_reducible refine r_lst ?_ | with_reducible refine r_bin ?_ | with_reducible refine r_neg ?_ | with_reducible refine r_no ?_ | with_reducible refine r_an ?_ | with_reducible refine r_oo ?_ | with_reducible refine r_ite ?_ | with_reducible refine r_cmp ?_ | with_reducible refine r_cmp2 ?_ | with_reducible refine r_ix ?_ | with_reducible refine r_sl ?_ | with_reducible refine r_call ?_ | with_reducible refine r_b1 ?_ | with_reducible refine r_b2 ?_ | with_reducible refine r_isi ?_ | with_reducible refine r_rf ?_ | with_reducible refine r_vl ?_ | with_reducible refine r_back ?_ | with_reducible refine r_m1 ?_ | with_reducible refine r_m0 ?_ | with_reducible refine r_o1 ?_ | with_reducible refine r_o2 ?_ | with_reducible refine r_o3 ?_ | with_reducible refine r_dct ?_ | with_reducible refine rd_dx ?_ | with_reducible refine r_tin ?_ | with_reducible refine r_tix ?_ | with_reducible refine t_str ?_ | with_reducible refine g_ds ?_ | with_reducible refine bk_T ?_ | with_reducible refine li_T ?_ | with_reducible refine o_addB ?_ | with_reducible refine o_subB ?_ | with_reducible refine o_subIB ?_ | with_reducible refine o_mulIB ?_ | with_reducible refine o_negB ?_ | with_reducible refine o_negI ?_ | with_reducible refine a_nil ?_ | with_reducible refine a_cons ?_ | with_reducible refine q_nil ?_ | with_reducible refine q_cons ?_ | with_reducible refine p_non ?_ | with_reducible refine t_bl ?_ | with_reducible refine t_int ?_ | with_reducible refine t_d ?_ | with_reducible refine t_ol ?_ | with_reducible refine t_as ?_ | with_reducible refine t_asl ?_ | with_reducible refine o_add ?_ | with_reducible refine o_sub ?_ | with_reducible refine c_eqI ?_ | with_reducible refine c_eqS ?_ | with_reducible refine c_neI ?_ | with_reducible refine c_neS ?_ | with_reducible refine c_ltI ?_ | with_reducible refine c_leI ?_ | with_reducible refine c_gtI ?_ | with_reducible refine c_geI ?_ | with_reducible refine l_lst ?_ | with_reducible refine l_tup ?_ | with_reducible refine l_ol ?_ | with_reducible refine tu_ol ?_ | with_reducible refine sl_lst ?_ | with_reducible refine sl_tup ?_ | with_reducible refine sl_ol ?_ | with_reducible refine mn2 ?_ | with_reducible refine mx2 ?_ | with_reducible refine n_i ?_ | with_reducible refine n_st ?_ | with_reducible refine an_i ?_ | with_reducible refine an_s ?_ | with_reducible refine if_T ?_ | with_reducible refine if_F ?_ | with_reducible refine c_nilL ?_ | ((with_reducible refine w_fz rfl ?_); try dsimp only [List.set]) | ((with_reducible refine g_n ?_); try dsimp only [List.set]) | with_reducible refine g_t rfl ?_ | with_reducible refine w_retV (slotK_iff.mpr ⟨_, rfl, ?_⟩) | with_reducible refine r_vd rfl ?_ | with_reducible refine b_v rfl ?_ | with_reducible refine b_ne rfl ?_ | with_reducible refine p_some rfl ?_ | with_reducible refine slotK_iff.mpr ⟨_, rfl, ?_⟩ | with_reducible refine m_r rfl ?_ | with_reducible refine m_z rfl ?_ | (with_reducible refine And.intro updD_same ?_; try simp only [updD_updD, List.set, Int.reduceToNat]) | with_reducible refine x_ref rfl ?_ | with_reducible refine x_tup rfl ?_ | with_reducible refine x_lst rfl ?_ | with_reducible refine x_ol rfl ?_ | ((with_reducible refine isi_T ?e ?_); (case e => exact rfl)) | ((with_reducible refine isi_F ?e ?_); (case e => exact rfl)) | ((with_reducible refine r_g (d := ?d) ?e ?_); (case e => exact rfl)) | ((with_reducible refine os rfl ?_); try dsimp only [List.set]) | with_reducible refine ⟨trivial, ?_⟩ | ((with_reducible refine ap_lt ?s ?_); (case s => first | assumption | (simp only [List.length_cons, List.length_nil, List.length_append]; decide)); try dsimp only [List.set, List.cons_append, List.nil_append]) | ((with_reducible refine ap_le ?s ?_); (case s => first | assumption | (simp only [List.length_cons, List.length_nil, List.length_append]; decide)); try dsimp only [List.set, List.cons_append, List.nil_append]) | ((with_reducible refine o_mul ?s ?_); case s => first | assumption | exact Bd.cmul (by first | assumption | exact Bd.mod (a := 40) (by decide) | exact Bd.const (a := 40) (by decide) | exact Bd.mul (by first | assumption | exact Bd.const (a := 40) (by decide)) (by assumption) | exact Bd.add (by first | assumption | exact Bd.mod (a := 40) (by decide)) (by first | assumption | exact Bd.mod (a := 40) (by decide))) (by first | assumption | exact Bd.mod (a := 40) (by decide) | exact Bd.const (a := 40) (by decide) | exact Bd.mul (by first | assumption | exact Bd.const (a := 40) (by decide)) (by assumption) | exact Bd.add (by first | assumption | exact Bd.mod (a := 40) (by decide)) (by first | assumption | exact Bd.mod (a := 40) (by decide))) (by omega)) | ((with_reducible refine o_div ?s ?_); case s => first | assumption | exact Bd.cdiv (by first | assumption | exact Bd.mod (a := 40) (by decide) | exact Bd.const (a := 40) (by decide) | exact Bd.mul (by first | assumption | exact Bd.const (a := 40) (by decide)) (by assumption) | exact Bd.add (by first | assumption | exact Bd.mod (a := 40) (by decide)) (by first | assumption | exact Bd.mod (a := 40) (by decide))) (by first | assumption | decide | omega) (by omega)) | ((with_reducible refine o_mod ?s ?_); case s => first | assumption | decide | omega) | ((with_reducible refine o_pow ?s ?_); case s => exact ⟨by decide, by decide, by decide⟩) | with_reducible refine c_isB ?_ | with_reducible refine c_isnotB ?_ | with_reducible refine c_isNN ?_ | with_reducible refine c_isNF ?_ | with_reducible refine c_isnotNN ?_ | with_reducible refine c_isnotNF ?_ | with_reducible refine c_eqB ?_ | with_reducible refine c_neB ?_ | with_reducible refine c_notinF2 ?_ | with_reducible refine if_NT ?_ | with_reducible refine if_NF ?_ | with_reducible refine c_eqF ?_ | with_reducible refine c_neF ?_ | with_reducible refine x_fr0 ?_ | with_reducible refine x_fr1 ?_)))
namespace Mi
open PySem PySem.Spec PyProof.Rows L2
/-- _law_bend: 0 _law_feed_here, 1 _law_thing, 2 _law_odd_here, 3 _law_way, 4 _law_at -/
def t_law_bend : Fn := ⟨3, 5, [.ite (.an (.isi (.v 1) .tuple) (.an (.cmp .ne (.v 1) (.tup [])) (.cmp .gt (.call "_law_draw" [(.v 0), (.int 4)]) (.int 0)))) [.asg (.n 4) (.call "_law_draw" [(.v 0), (.b1 .len (.v 1))]), .ret (.bin .add (.bin .add (.sl (.v 1) .non (.v 4)) (.tup [(.call "_law_bend" [(.v 0), (.ix (.v 1) (.v 4)), (.v 2)])])) (.sl (.v 1) (.bin .add (.v 4) (.int 1)) .non))] [], .asg (.n 3) (.call "_law_draw" [(.v 0), (.int 6)]), .ite (.an (.isi (.v 1) .tuple) (.cmp .lt (.v 3) (.int 4))) [.asg (.n 4) (.call "_law_draw" [(.v 0), (.bin .add (.b1 .len (.v 1)) (.int 1))]), .ite (.cmp .eq (.v 3) (.int 0)) [.ret (.bin .add (.bin .add (.sl (.v 1) .non (.v 4)) (.tup [(.ix (.v 2) (.call "_law_draw" [(.v 0), (.b1 .len (.v 2))]))])) (.sl (.v 1) (.v 4) .non))] [], .ret (.vl (.ite (.cmp .eq (.v 3) (.int 1)) (.bin .add (.sl (.v 1) .non (.v 4)) (.sl (.v 1) (.bin .add (.v 4) (.int 1)) .non)) (.ite (.cmp .eq (.v 3) (.int 2)) (.b1 .list (.v 1)) (.bin .add (.v 1) (.sl (.v 1) .non (.v 4))))))] [], .ite (.an (.isi (.v 1) .int) (.cmp .lt (.v 3) (.int 4))) [.ret (.ix (.tup [(.bin .add (.v 1) (.int 1)), (.bin .sub (.v 1) (.int 1)), (.neg (.v 1)), (.tup [(.v 1)])]) (.v 3))] [], .ite (.an (.isi (.v 1) .str) (.cmp .lt (.v 3) (.int 3))) [.ret (.ix (.tup [(.bin .add (.v 1) (.str "a")), (.sl (.v 1) (.int 1) .non), (.lst [(.v 1)])]) (.v 3))] [], .ret (.ix (.v 2) (.call "_law_draw" [(.v 0), (.b1 .len (.v 2))]))]⟩
/-- _law_odd: 0 _law_small -/
def t_law_odd : Fn := ⟨0, 1, [.asg (.n 0) (.tup [.non, (.bl true), (.bl false), (.str ""), (.str "a"), (.str "A"), (.int 0), (.int 1), (.int 2), (.int 4), (.neg (.int 1)), (.tup []), (.lst []), (.tup [(.lst [(.int 1)]), (.str "a")]), (.tup [(.str "a"), (.int 1)]), (.tup [(.str "a")])]), .ret (.bin .add (.v 0) (.tup [(.bin .mul (.bin .mul (.bin .mul (.bin .pow (.int 10) (.int 64)) (.bin .pow (.int 10) (.int 64))) (.bin .pow (.int 10) (.int 64))) (.bin .pow (.int 10) (.int 7))), (.str "abcdefgh"), (.str "abcdefghi"), (.str "a b"), (.tup [(.int 0)]), (.tup [(.int 1), (.int 1)])]))]⟩
/-! ### a thing, bent -/
structure OddOk (odd : List D) : Prop where
  ne : 0 < odd.length
  len : odd.length < 1000
  ok : okNs 700 odd = true
  tl : ∀ x ∈ odd, tl x ≤ 700
  dp : ∀ x ∈ odd, dpD x ≤ 2
/-- what comes of a thing, bent -/
structure Bent (n : Nat) (x y : D) : Prop where
  ok : okN (n + 1) y = true
  tl : tl y ≤ 2 * tl x + 800
  dp : dpD y ≤ dpD x + 2
theorem atI_of {l : List D} {i : Int} (h0 : 0 ≤ i) (h1 : i < l.length) : ∃ y ∈ l, atI l i = some y ∧ l[i.toNat]? = some y := by
  have h2 : i.toNat < l.length := by omega
  refine ⟨l[i.toNat], List.getElem_mem h2, ?_, List.getElem?_eq_getElem h2⟩
  unfold atI ixN
  rw [if_pos h0, if_pos h1]
  show l[i.toNat]? = _
  exact List.getElem?_eq_getElem h2
theorem okNs_take {n : Nat} {l : List D} (h : okNs n l = true) (k : Nat) : okNs n (l.take k) = true := okNs_iff.mpr fun x hx => okNs_iff.mp h x (List.mem_of_mem_take hx)
theorem okNs_drop {n : Nat} {l : List D} (h : okNs n l = true) (k : Nat) : okNs n (l.drop k) = true := okNs_iff.mpr fun x hx => okNs_iff.mp h x (List.mem_of_mem_drop hx)
theorem okNs_app {n : Nat} {l m : List D} (h : okNs n l = true) (g : okNs n m = true) : okNs n (l ++ m) = true := okNs_iff.mpr fun x hx => (List.mem_append.mp hx).elim (okNs_iff.mp h x) (okNs_iff.mp g x)
theorem dpDs_take {m : Nat} {l : List D} (h : dpDs l ≤ m) (k : Nat) : dpDs (l.take k) ≤ m := dpDs_le.mpr fun x hx => dpDs_le.mp h x (List.mem_of_mem_take hx)
theorem dpDs_drop {m : Nat} {l : List D} (h : dpDs l ≤ m) (k : Nat) : dpDs (l.drop k) ≤ m := dpDs_le.mpr fun x hx => dpDs_le.mp h x (List.mem_of_mem_drop hx)
theorem dpDs_app {k : Nat} {l m : List D} (h : dpDs l ≤ k) (g : dpDs m ≤ k) : dpDs (l ++ m) ≤ k := dpDs_le.mpr fun x hx => (List.mem_append.mp hx).elim (dpDs_le.mp h x) (dpDs_le.mp g x)
theorem log_add1 (i : Int) : (i + 1).natAbs.log2 ≤ i.natAbs.log2 + 1 := by
  by_cases z : (i + 1).natAbs = 0
  · rw [z]; simp
  · by_cases z2 : i.natAbs = 0
    · have : i = 0 := by omega
      subst this; decide
    · have h1 : i.natAbs < 2 ^ (i.natAbs.log2 + 1) := Nat.lt_log2_self
      have h2 : (i + 1).natAbs < 2 ^ (i.natAbs.log2 + 1 + 1) := by rw [Nat.pow_succ]; omega
      have := (Nat.log2_lt z).mpr h2
      omega
theorem log_sub1 (i : Int) : (i - 1).natAbs.log2 ≤ i.natAbs.log2 + 1 := by
  have h := log_add1 (-i)
  rw [show (-i + 1) = -(i - 1) by omega, Int.natAbs_neg, Int.natAbs_neg] at h
  exact h
theorem log_small {i : Int} (h : i.natAbs < 4) : i.natAbs.log2 ≤ 1 := by
  by_cases z : i.natAbs = 0
  · rw [z]; simp
  · have := (Nat.log2_lt z).mpr (show i.natAbs < 2 ^ 2 from h)
    omega
theorem strOk_app {s t : Str} (h : PyData.strOk s = true) (g : PyData.strOk t = true) : PyData.strOk (s ++ t) = true := by
  have h' : s.cps.all (· < 0x110000) = true := h
  have g' : t.cps.all (· < 0x110000) = true := g
  show (s.cps ++ t.cps).all (· < 0x110000) = true
  rw [Array.all_append, h', g']; rfl
section
variable {hp : HpD} {Q : SK}
end
section
variable {pg : Pg} {co : ConT} {hp : HpD} {Q : SK} {E : EK}
theorem odd_at {odd : List D} (O : OddOk odd) {x : D} {n : Nat} (hn : 700 ≤ n) {y : D} (hy : y ∈ odd) : Bent n x y :=
  ⟨okN_le (by omega) (okNs_iff.mp O.ok y hy), by have := O.tl y hy; omega, by have := O.dp y hy; omega⟩
theorem cut_toN {α : Type} (l : List α) (n : Nat) : cut l none (some (n : Int)) = l.take n := by
  by_cases h : n ≤ l.length
  · exact cut_to h
  · rw [cut_whole (by omega), List.take_of_length_le (by omega)]
theorem cut_fromN {α : Type} (l : List α) (n : Nat) : cut l (some (n : Int)) none = l.drop n := by
  by_cases h : n ≤ l.length
  · exact cut_from h
  · unfold cut
    rw [HT.sIx_nat, Nat.min_eq_right (by omega)]
    show (l.drop l.length).take _ = _
    rw [List.drop_length, List.drop_of_length_le (by omega)]; simp
theorem cut_succ {α : Type} (l : List α) (n : Nat) : cut l (some ((n : Int) + 1)) none = l.drop (n + 1) := cut_fromN l (n + 1)
theorem at4 {w : Int} {p q r s : D} (h0 : 0 ≤ w) (h1 : w < 4) : (w = 0 ∧ atI [p, q, r, s] w = some p) ∨ (w = 1 ∧ atI [p, q, r, s] w = some q) ∨ (w = 2 ∧ atI [p, q, r, s] w = some r) ∨ (w = 3 ∧ atI [p, q, r, s] w = some s) := by
  have : w = 0 ∨ w = 1 ∨ w = 2 ∨ w = 3 := by omega
  rcases this with rfl | rfl | rfl | rfl
  · exact .inl ⟨rfl, rfl⟩
  · exact .inr (.inl ⟨rfl, rfl⟩)
  · exact .inr (.inr (.inl ⟨rfl, rfl⟩))
  · exact .inr (.inr (.inr ⟨rfl, rfl⟩))
theorem at3D {w : Int} {p q r : D} (h0 : 0 ≤ w) (h1 : w < 3) : atI [p, q, r] w = some p ∨ atI [p, q, r] w = some q ∨ atI [p, q, r] w = some r := by
  have : w = 0 ∨ w = 1 ∨ w = 2 := by omega
  rcases this with rfl | rfl | rfl
  · exact .inl rfl
  · exact .inr (.inl rfl)
  · exact .inr (.inr rfl)
theorem cutS_len (z : Str) (lo hi : Option Int) : (cutS z lo hi).length ≤ z.length ∧ (PyData.strOk z = true → PyData.strOk (cutS z lo hi) = true) := by
  have hs : ∀ c ∈ (cutS z lo hi).cps.toList, c ∈ z.cps.toList := fun c hc => by
    have hc' : c ∈ (z.cps.toList.drop (HT.sIx z.length 0 lo)).take (HT.sIx z.length z.length hi - HT.sIx z.length 0 lo) := by simpa [cutS] using hc
    exact List.mem_of_mem_drop (List.mem_of_mem_take hc')
  refine ⟨?_, fun h => ?_⟩
  · show ((z.cps.toList.drop (HT.sIx z.length 0 lo)).take (HT.sIx z.length z.length hi - HT.sIx z.length 0 lo)).toArray.size ≤ z.cps.size
    rw [List.size_toArray, List.length_take, List.length_drop, Array.length_toList]; omega
  · have h' : z.cps.all (· < 0x110000) = true := h
    rw [Array.all_eq_true'] at h'
    show (cutS z lo hi).cps.all (· < 0x110000) = true
    rw [Array.all_eq_true']
    intro c hc
    exact h' c (by simpa using hs c (by simpa using hc))
theorem s_bendR {ns : List Int} {odd : List D} (O : OddOk odd) {n : Nat} (hn : 700 ≤ n) (hn2 : n < 1900) (g1 : pg "_law_draw" = some t_law_draw) {x : D} {m b : Nat} {a : Addr} {o : MO} (hok : okN n x = true) (htl : tl x ≤ 1000000) (ho : FeedL ns (b + 3) o)
    (hQ : ∀ y o', Bent n x y → FeedL ns b o' → Q (.d y) (updD hp a o')) :
    wss (callD pg co (m + 1)) co (t_law_bend.body.drop 1) [some (.d (.ref a)), some (.d x), some (.d (.tup odd)), none, none] (updD hp a o) ⟨fun _ hp => Q (.d .non) hp, Q, noNx, noNx, fun c fs _ hp => E c fs hp⟩ := by
  unfold t_law_bend
  dsimp only [List.drop]
  refine w_cons ?_
  bv_omega
  refine s_draw (b := b + 2) ho (by decide) (by decide) (fun way o1 w0 w1 h1 => ?_) g1
  bv_omega
  have ol := O.len
  have one := O.ne
  have hz := sizeLine_eq
  have fin : ∀ s4, wss (callD pg co (m + 1)) co (t_law_bend.body.drop 5) [some (.d (.ref a)), some (.d x), some (.d (.tup odd)), some (.d (.int way)), s4] (updD hp a o1) ⟨fun _ hp => Q (.d .non) hp, Q, noNx, noNx, fun c fs _ hp => E c fs hp⟩ := fun s4 => by
    unfold t_law_bend
    dsimp only [List.drop]
    expose_names
    refine s_draw (b := b + 1) h1 (by omega) (by omega) (fun j o2 j0 j1 h2 => ?_) g1
    expose_names
    obtain ⟨y, hy, e, _⟩ := atI_of j0 j1
    refine x_tup e ?_
    exact hQ _ _ (odd_at O hn hy) (feed_le h2 (by omega))
  unfold t_law_bend at fin
  dsimp only [List.drop] at fin
  cases x with
  | tup l =>
    have hok' : okNs n l = true := hok
    have hl := tls_len l
    have htl' : tls l + 3 ≤ 1000000 := htl
    have hdl : dpDs l ≤ dpDs l := Nat.le_refl _
    refine w_cons ?_
    bv_omega
    refine if_D (fun c1 => ?_) (fun c1 => ?_)
    · refine w_cons ?_
      bv_omega
      refine s_draw (b := b + 1) h1 (by omega) (by omega) (fun t o2 t0 t1 h2 => ?_) g1
      obtain ⟨p, rfl⟩ := Int.eq_ofNat_of_zero_le t0
      have hp' : p ≤ l.length := by omega
      bv_omega
      refine w_cons ?_
      bv_omega
      have s0 := tls_app (l.take p) (l.drop p)
      rw [List.take_append_drop] at s0
      have l0 : (l.take p).length + (l.drop p).length = l.length := by rw [← List.length_append, List.take_append_drop]
      refine if_D (fun c2 => ?_) (fun c2 => ?_)
      · expose_names
        rw [cut_toN]
        bv_omega
        refine s_draw (b := b) h2 (by omega) (by omega) (fun j o3 j0 j1 h3 => ?_) g1
        bv_omega
        obtain ⟨y, hy, e, _⟩ := atI_of j0 j1
        refine x_tup e ?_
        bv_omega
        refine o_addT (by simp only [List.length_cons, List.length_nil]; omega) ?_
        bv_omega
        rw [cut_fromN]
        refine o_addT (by simp only [List.length_cons, List.length_nil, List.length_append]; omega) ?_
        refine hQ _ _ ⟨?_, ?_, ?_⟩ h3
        · exact okNs_le (by omega) (okNs_app (okNs_app (okNs_take hok' p) (okNs_iff.mpr fun z hz => by rw [List.mem_singleton.mp hz]; exact okN_le hn (okNs_iff.mp O.ok y hy))) (okNs_drop hok' p))
        · have := O.tl y hy
          simp only [tl, tls_app, tls]; omega
        · have := O.dp y hy
          show dpDs _ + 1 ≤ dpDs l + 1 + 2
          exact Nat.succ_le_succ (dpDs_app (dpDs_app (dpDs_take (by omega) p) (dpDs_le.mpr fun z hz => by rw [List.mem_singleton.mp hz]; omega)) (dpDs_drop (by omega) p))
      · expose_names
        refine if_D (fun c3 => ?_) (fun c3 => ?_)
        · expose_names
          rw [cut_toN]
          bv_omega
          rw [cut_succ]
          have l2 : (l.drop (p + 1)).length ≤ l.length := by rw [List.length_drop]; omega
          refine o_addT (by omega) ?_
          bv_omega
          refine hQ _ _ ⟨?_, ?_, ?_⟩ (feed_le h2 (by omega))
          · exact okNs_le (by omega) (okNs_app (okNs_take hok' p) (okNs_drop hok' (p + 1)))
          · have a1 := tls_take l p
            have a2 := tls_drop l (p + 1)
            simp only [tl, tls_app]; omega
          · show dpDs _ + 1 ≤ dpDs l + 1 + 2
            exact Nat.succ_le_succ (dpDs_app (dpDs_take (by omega) p) (dpDs_drop (by omega) (p + 1)))
        · expose_names
          refine if_D (fun c4 => ?_) (fun c4 => ?_)
          · expose_names
            refine hQ _ _ ⟨okNs_le (by omega) hok', by simp only [tl]; omega, by simp only [dpD]; omega⟩ (feed_le h2 (by omega))
          · expose_names
            rw [cut_toN]
            have l2 : (l.take p).length ≤ l.length := by rw [List.length_take]; omega
            refine o_addT (by omega) ?_
            bv_omega
            refine hQ _ _ ⟨?_, ?_, ?_⟩ (feed_le h2 (by omega))
            · exact okNs_le (by omega) (okNs_app hok' (okNs_take hok' p))
            · have a1 := tls_take l p
              simp only [tl, tls_app]; omega
            · show dpDs _ + 1 ≤ dpDs l + 1 + 2
              exact Nat.succ_le_succ (dpDs_app (by omega) (dpDs_take (by omega) p))
    · bv_omega
      refine w_cons ?_
      bv_omega
      refine w_cons ?_
      bv_omega
      exact fin none
  | int i =>
    have hok' : i.natAbs.log2 < n := of_decide_eq_true hok
    refine w_cons ?_
    bv_omega
    refine w_cons ?_
    bv_omega
    refine if_D (fun c1 => ?_) (fun c1 => ?_)
    · expose_names
      have B : ∀ y, (y = .int (i + 1) ∨ y = .int (i - 1) ∨ y = .int (-i) ∨ y = .tup [.int i]) → Bent n (.int i) y := fun y hy => by
        have a1 := log_add1 i
        have a2 := log_sub1 i
        rcases hy with rfl | rfl | rfl | rfl
        · exact ⟨decide_eq_true (by omega), by simp only [tl]; omega, by simp only [dpD]; omega⟩
        · exact ⟨decide_eq_true (by omega), by simp only [tl]; omega, by simp only [dpD]; omega⟩
        · exact ⟨decide_eq_true (by rw [Int.natAbs_neg]; omega), by simp only [tl, Int.natAbs_neg]; omega, by simp only [dpD]; omega⟩
        · exact ⟨by simp only [okN, okNs, Bool.and_true]; exact decide_eq_true (by omega), by simp only [tl, tls]; omega, by simp only [dpD, dpDs]; omega⟩
      rcases at4 (p := .int (i + 1)) (q := .int (i - 1)) (r := .int (-i)) (s := .tup [.int i]) w0 c1 with ⟨_, e⟩ | ⟨_, e⟩ | ⟨_, e⟩ | ⟨_, e⟩
      · exact x_tup e (hQ _ _ (B _ (.inl rfl)) (feed_le h1 (by omega)))
      · exact x_tup e (hQ _ _ (B _ (.inr (.inl rfl))) (feed_le h1 (by omega)))
      · exact x_tup e (hQ _ _ (B _ (.inr (.inr (.inl rfl)))) (feed_le h1 (by omega)))
      · exact x_tup e (hQ _ _ (B _ (.inr (.inr (.inr rfl)))) (feed_le h1 (by omega)))
    · bv_omega
      refine w_cons ?_
      bv_omega
      exact fin none
  | bl i =>
    refine w_cons ?_
    bv_omega
    refine w_cons ?_
    bv_omega
    refine if_D (fun c1 => ?_) (fun c1 => ?_)
    · expose_names
      have B : ∀ y, (y = .int (b2i i + 1) ∨ y = .int (b2i i - 1) ∨ y = .int (- b2i i) ∨ y = .tup [.bl i]) → Bent n (.bl i) y := fun y hy => by
        have b1 : 0 ≤ b2i i ∧ b2i i ≤ 1 := by cases i <;> decide
        have q1 := log_small (i := b2i i + 1) (by omega)
        have q2 := log_small (i := b2i i - 1) (by omega)
        have q3 := log_small (i := - b2i i) (by omega)
        rcases hy with rfl | rfl | rfl | rfl
        · exact ⟨decide_eq_true (by omega), by simp only [tl]; omega, by simp only [dpD]; omega⟩
        · exact ⟨decide_eq_true (by omega), by simp only [tl]; omega, by simp only [dpD]; omega⟩
        · exact ⟨decide_eq_true (by omega), by simp only [tl]; omega, by simp only [dpD]; omega⟩
        · exact ⟨rfl, by simp only [tl, tls]; omega, by simp only [dpD, dpDs]; omega⟩
      rcases at4 (p := .int (b2i i + 1)) (q := .int (b2i i - 1)) (r := .int (- b2i i)) (s := .tup [.bl i]) w0 c1 with ⟨_, e⟩ | ⟨_, e⟩ | ⟨_, e⟩ | ⟨_, e⟩
      · exact x_tup e (hQ _ _ (B _ (.inl rfl)) (feed_le h1 (by omega)))
      · exact x_tup e (hQ _ _ (B _ (.inr (.inl rfl))) (feed_le h1 (by omega)))
      · exact x_tup e (hQ _ _ (B _ (.inr (.inr (.inl rfl)))) (feed_le h1 (by omega)))
      · exact x_tup e (hQ _ _ (B _ (.inr (.inr (.inr rfl)))) (feed_le h1 (by omega)))
    · bv_omega
      refine w_cons ?_
      bv_omega
      exact fin none
  | str z =>
    have hok' : PyData.strOk z = true := hok
    have htl' : 10 * z.length + 2 ≤ 1000000 := htl
    refine w_cons ?_
    bv_omega
    refine w_cons ?_
    bv_omega
    refine w_cons ?_
    bv_omega
    refine if_D (fun c1 => ?_) (fun c1 => ?_)
    · expose_names
      refine o_addS (by show z.length + 1 ≤ _; omega) ?_
      bv_omega
      refine sl_str (by omega) ?_
      bv_omega
      have cs := cutS_len z (some 1) none
      have B : ∀ y, (y = .str (z ++ "a") ∨ y = .str (cutS z (some 1) none) ∨ y = .lst [.str z]) → Bent n (.str z) y := fun y hy => by
        rcases hy with rfl | rfl | rfl
        · refine ⟨strOk_app hok' (by decide +kernel), ?_, by simp only [dpD]; omega⟩
          have : (z ++ ("a" : Str)).length = z.length + 1 := strLen_append z "a"
          simp only [tl]; rw [this]; omega
        · exact ⟨cs.2 hok', by simp only [tl]; omega, by simp only [dpD]; omega⟩
        · exact ⟨by simp only [okN, okNs, Bool.and_true]; exact hok', by simp only [tl, tls]; omega, by simp only [dpD, dpDs]; omega⟩
      rcases at3D (p := .str (z ++ "a")) (q := .str (cutS z (some 1) none)) (r := .lst [.str z]) w0 c1 with e | e | e
      · exact x_tup e (hQ _ _ (B _ (.inl rfl)) (feed_le h1 (by omega)))
      · exact x_tup e (hQ _ _ (B _ (.inr (.inl rfl))) (feed_le h1 (by omega)))
      · exact x_tup e (hQ _ _ (B _ (.inr (.inr rfl))) (feed_le h1 (by omega)))
    · bv_omega
      exact fin none
  | non =>
    refine w_cons ?_
    bv_omega
    refine w_cons ?_
    bv_omega
    refine w_cons ?_
    bv_omega
    exact fin none
  | lst l =>
    refine w_cons ?_
    bv_omega
    refine w_cons ?_
    bv_omega
    refine w_cons ?_
    bv_omega
    exact fin none
  | ref _ => cases hok
  | fn _ => cases hok
theorem s_bend1 {ns : List Int} {odd : List D} (O : OddOk odd) {n : Nat} (hn : 700 ≤ n) (hn2 : n < 1900) (g : pg "_law_bend" = some t_law_bend) (g1 : pg "_law_draw" = some t_law_draw) {x : D} {m b B : Nat} {a : Addr} {o : MO} (hok : okN n x = true) (htl : tl x ≤ 1000000)
    (ih : ∀ l y, x = .tup l → y ∈ l → ∀ (b : Nat) (o : MO) (hp : HpD) (Q : SK) (E : EK), FeedL ns (b + B) o → (∀ z o', Bent n y z → FeedL ns b o' → Q (.d z) (updD hp a o')) → callD pg co (m + 1) "_law_bend" [.ref a, y, .tup odd] (updD hp a o) Q E)
    (ho : FeedL ns (b + (B + 4)) o) (hQ : ∀ y o', Bent n x y → FeedL ns b o' → Q (.d y) (updD hp a o')) : callD pg co (m + 2) "_law_bend" [.ref a, x, .tup odd] (updD hp a o) Q E := by
  refine call_intro g rfl ?_
  show wss (callD pg co (m + 1)) co t_law_bend.body [some (.d (.ref a)), some (.d x), some (.d (.tup odd)), none, none] (updD hp a o) _
  have rest : ∀ o, FeedL ns (b + 3) o → wss (callD pg co (m + 1)) co (t_law_bend.body.drop 1) [some (.d (.ref a)), some (.d x), some (.d (.tup odd)), none, none] (updD hp a o) ⟨fun _ hp => Q (.d .non) hp, Q, noNx, noNx, fun c fs _ hp => E c fs hp⟩ := fun o h => s_bendR O hn hn2 g1 hok htl h hQ
  unfold t_law_bend at rest ⊢
  dsimp only [List.drop] at rest
  dsimp only
  have hz := sizeLine_eq
  cases x with
  | tup l =>
    obtain ⟨ds, e, _⟩ := shows_ok (by omega : n ≤ 1900) (l := l) hok
    have hok' : okNs n l = true := hok
    have hl := tls_len l
    have htl' : tls l + 3 ≤ 1000000 := htl
    refine w_cons ?_
    bv_omega
    refine c_neNil e ?_
    bv_omega
    refine if_N (fun c1 => ?_) (fun c1 => ?_)
    · bv_omega
      refine s_draw (b := b + (B + 3)) ho (by decide) (by decide) (fun r o1 r0 r1 h1 => ?_) g1
      bv_omega
      refine if_D (fun c2 => ?_) (fun c2 => ?_)
      · have hne : 0 < l.length := by
          cases l with
          | nil => exact (c1 rfl).elim
          | cons y r => simp
        refine w_cons ?_
        bv_omega
        refine s_draw (b := b + (B + 2)) h1 (by omega) (by omega) (fun t o2 t0 t1 h2 => ?_) g1
        obtain ⟨p, rfl⟩ := Int.eq_ofNat_of_zero_le t0
        expose_names
        rw [cut_toN]
        expose_names
        obtain ⟨y, hy, e1, e2⟩ := atI_of t0 t1
        rw [Int.toNat_natCast] at e2
        refine x_tup e1 ?_
        expose_names
        refine ih l y rfl hy (b + 2) o2 hp _ _ (feed_le h2 (by omega)) fun z o3 B3 h3 => ?_
        expose_names
        have l1 : (l.take p).length ≤ l.length := by rw [List.length_take]; omega
        refine o_addT (by simp only [List.length_cons, List.length_nil]; omega) ?_
        expose_names
        rw [cut_succ]
        have l2 : (l.drop (p + 1)).length ≤ l.length := by rw [List.length_drop]; omega
        refine o_addT (by simp only [List.length_cons, List.length_nil, List.length_append]; omega) ?_
        have sp := tls_split e2
        have tb := B3.tl
        have db := B3.dp
        have dy : dpD y ≤ dpDs l := dpDs_le.mp (Nat.le_refl _) y hy
        refine hQ _ _ ⟨?_, ?_, ?_⟩ (feed_le h3 (by omega))
        · exact okNs_app (okNs_app (okNs_take (okNs_le (by omega) hok') p) (okNs_iff.mpr fun w hw => by rw [List.mem_singleton.mp hw]; exact B3.ok)) (okNs_drop (okNs_le (by omega) hok') (p + 1))
        · simp only [tl, tls_app, tls] at tb ⊢; omega
        · show dpDs _ + 1 ≤ dpDs l + 1 + 2
          exact Nat.succ_le_succ (dpDs_app (dpDs_app (dpDs_take (by omega) p) (dpDs_le.mpr fun w hw => by rw [List.mem_singleton.mp hw]; omega)) (dpDs_drop (by omega) (p + 1)))
      · bv_omega
        exact rest _ (feed_le h1 (by omega))
    · bv_omega
      exact rest _ (feed_le ho (by omega))
  | int i =>
    refine w_cons ?_
    bv_omega
    exact rest _ (feed_le ho (by omega))
  | bl i =>
    refine w_cons ?_
    bv_omega
    exact rest _ (feed_le ho (by omega))
  | str z =>
    refine w_cons ?_
    bv_omega
    exact rest _ (feed_le ho (by omega))
  | non =>
    refine w_cons ?_
    bv_omega
    exact rest _ (feed_le ho (by omega))
  | lst l =>
    refine w_cons ?_
    bv_omega
    exact rest _ (feed_le ho (by omega))
  | ref _ => cases hok
  | fn _ => cases hok
theorem s_bend {ns : List Int} {odd : List D} (O : OddOk odd) {n : Nat} (hn : 700 ≤ n) (hn2 : n < 1900) {a : Addr} : ∀ (d k : Nat) {x : D} {b : Nat} {o : MO} {hp : HpD} {Q : SK} {E : EK}, dpD x ≤ d → okN n x = true → tl x ≤ 1000000 → FeedL ns (b + (4 * d + 4)) o →
    (∀ y o', Bent n x y → FeedL ns b o' → Q (.d y) (updD hp a o')) → (g : pg "_law_bend" = some t_law_bend := by rfl) → (g1 : pg "_law_draw" = some t_law_draw := by rfl) → callD pg co (k + d + 2) "_law_bend" [.ref a, x, .tup odd] (updD hp a o) Q E := by
  intro d
  induction d with
  | zero =>
    intro k x b o hp Q E hd hok htl ho hQ g g1
    refine s_bend1 (m := k + 0) (b := b) (B := 0) O hn hn2 g g1 hok htl (fun l y e hy => ?_) ho hQ
    subst e
    simp only [dpD] at hd
    omega
  | succ d ih =>
    intro k x b o hp Q E hd hok htl ho hQ g g1
    refine s_bend1 (m := k + (d + 1)) (b := b) (B := 4 * d + 4) O hn hn2 g g1 hok htl (fun l y e hy b o hp Q E h1 h2 => ?_) (feed_le ho (by omega)) hQ
    subst e
    have h3 : dpD y ≤ dpDs l := dpDs_le.mp (Nat.le_refl _) y hy
    have h4 := tls_mem hy
    simp only [dpD] at hd
    simp only [tl] at htl
    exact ih k (by omega) (okNs_iff.mp hok y hy) (by omega) h1 h2 g g1
def oddL : List D := [.non, .bl true, .bl false, .str "", .str "a", .str "A", .int 0, .int 1, .int 2, .int 4, .int (-1), .tup [], .lst [], .tup [.lst [.int 1], .str "a"], .tup [.str "a", .int 1], .tup [.str "a"],
  .int (10 ^ 64 * 10 ^ 64 * 10 ^ 64 * 10 ^ 7), .str "abcdefgh", .str "abcdefghi", .str "a b", .tup [.int 0], .tup [.int 1, .int 1]]
theorem oddOk : OddOk oddL := ⟨by decide, by decide, by decide +kernel, by decide +kernel, by decide +kernel⟩
theorem s_odd {m : Nat} (h : Q (.d (.tup oddL)) hp) (g : pg "_law_odd" = some t_law_odd := by rfl) : callD pg co (m + 1) "_law_odd" [] hp Q E := by
  refine call_intro g rfl ?_
  generalize callD pg co m = cl
  show wss cl co t_law_odd.body [none] hp _
  unfold t_law_odd
  dsimp only
  refine w_cons ?_
  bv_omega
  have b64 : Bd 213 ((10 : Int) ^ (64 : Int).toNat) := ⟨by decide +kernel, by decide +kernel⟩
  have b7 : Bd 24 ((10 : Int) ^ (7 : Int).toNat) := ⟨by decide +kernel, by decide +kernel⟩
  have m1 := b64.mul b64
  have m2 := m1.mul b64
  refine w_cons ?_
  bv_omega
  refine o_addT (by decide +kernel) ?_
  exact h
end
end Mi

namespace K12
open PySem PySem.Spec PyProof.Rows L2 Mi
/-! ### the text, its terms -/
def theBody : List Stmt := PySem.Challenge.pw_twicecalls_k12_steps_and_letters.main.body
def isDef (x : Str) : Stmt → Bool
  | .FunctionDef y .. => y == x
  | _ => false
def stOf (x : Str) : Stmt := (theBody.find? (isDef x)).getD (.Pass ⟨0, 0, 0, 0⟩)
def bis : List Str := ["len", "repr", "all", "tuple", "list", "ord", "range", "isinstance", "int", "bool", "str"]
def fns : List Str := ["is_number", "is_word", "are_numbers", "is_answer", "is_lane", "is_going", "is_handling", "is_tearing", "is_bare", "is_step", "is_letter", "_law_feed", "_law_draw", "_law_after", "_law_word", "_law_bend", "_law_odd", "_law_whole", "_law_worded", "_law_numbers", "_law_answered", "_law_stepped", "_law_lettered", "_law_thing", "_law_fixed", "_law_near", "law"]
def dfs : List (Str × List D) := [("STEPS", [(.tup [.str "go", .fn "is_going"]), (.tup [.str "get", .fn "is_handling"]), (.tup [.str "lose", .fn "is_handling"]), (.tup [.str "double", .fn "is_handling"]), (.tup [.str "tick", .fn "is_bare"]), (.tup [.str "tear", .fn "is_tearing"]), (.tup [.str "fall", .fn "is_bare"])])]
def cts : List ClsI := []
def isCls (x : Str) : Stmt → Bool
  | .ClassDef y .. => y == x
  | _ => false
def stInit (x : Str) : Stmt := match (theBody.find? (isCls x)) with
  | some (.ClassDef _ _ _ body _ _ _ _ _ _ _) => (body.find? (isDef "__init__")).getD (.Pass ⟨0, 0, 0, 0⟩)
  | _ => .Pass ⟨0, 0, 0, 0⟩
/-- is_number: 0 thing -/
def n_is_number : List Str := ["thing"]
def p_is_number : List Str := ["thing"]
theorem c_is_number : chkFn bis fns dfs cts t_is_number n_is_number p_is_number (stOf "is_number") = true := by decide +kernel
/-- is_word: 0 thing, 1 sign -/
def t_is_word : Fn := ⟨1, 2, [.ite (.oo (.no (.isi (.v 0) .str)) (.no (.cmp2 .le .le (.int 1) (.b1 .len (.v 0)) (.g "LONGEST")))) [.ret (.bl false)] [], .ret (.b1 .all (.comp (.cmp .inn (.v 1) (.g "LETTERS")) [1] (.e (.v 0)) (.bl true) [1]))]⟩
def n_is_word : List Str := ["thing", "sign"]
def p_is_word : List Str := ["thing"]
theorem c_is_word : chkFn bis fns dfs cts t_is_word n_is_word p_is_word (stOf "is_word") = true := by decide +kernel
/-- are_numbers: 0 thing, 1 many, 2 one -/
def n_are_numbers : List Str := ["thing", "many", "one"]
def p_are_numbers : List Str := ["thing", "many"]
theorem c_are_numbers : chkFn bis fns dfs cts t_are_numbers n_are_numbers p_are_numbers (stOf "are_numbers") = true := by decide +kernel
/-- is_answer: 0 thing -/
def t_is_answer : Fn := ⟨1, 1, [.ite (.oo (.no (.isi (.v 0) .tuple)) (.oo (.cmp .eq (.b1 .len (.v 0)) (.int 0)) (.no (.isi (.ix (.v 0) (.int 0)) .str)))) [.ret (.bl false)] [], .ret (.oo (.cmp .eq (.v 0) (.tup [(.str "late")])) (.an (.cmp .eq (.b1 .len (.v 0)) (.int 2)) (.an (.cmp .eq (.ix (.v 0) (.int 0)) (.str "done")) (.call "is_number" [(.ix (.v 0) (.int 1))]))))]⟩
def n_is_answer : List Str := ["thing"]
def p_is_answer : List Str := ["thing"]
theorem c_is_answer : chkFn bis fns dfs cts t_is_answer n_is_answer p_is_answer (stOf "is_answer") = true := by decide +kernel
/-- is_lane: 0 thing -/
def t_is_lane : Fn := ⟨1, 1, [.ret (.an (.call "is_number" [(.v 0)]) (.cmp .lt (.v 0) (.int 2)))]⟩
def n_is_lane : List Str := ["thing"]
def p_is_lane : List Str := ["thing"]
theorem c_is_lane : chkFn bis fns dfs cts t_is_lane n_is_lane p_is_lane (stOf "is_lane") = true := by decide +kernel
/-- is_going: 0 rest -/
def t_is_going : Fn := ⟨1, 1, [.ret (.call "are_numbers" [(.v 0), (.int 1)])]⟩
def n_is_going : List Str := ["rest"]
def p_is_going : List Str := ["rest"]
theorem c_is_going : chkFn bis fns dfs cts t_is_going n_is_going p_is_going (stOf "is_going") = true := by decide +kernel
/-- is_handling: 0 rest -/
def t_is_handling : Fn := ⟨1, 1, [.ret (.an (.call "are_numbers" [(.v 0), (.int 2)]) (.call "is_lane" [(.ix (.v 0) (.int 0))]))]⟩
def n_is_handling : List Str := ["rest"]
def p_is_handling : List Str := ["rest"]
theorem c_is_handling : chkFn bis fns dfs cts t_is_handling n_is_handling p_is_handling (stOf "is_handling") = true := by decide +kernel
/-- is_tearing: 0 rest -/
def t_is_tearing : Fn := ⟨1, 1, [.ret (.an (.cmp .eq (.b1 .len (.v 0)) (.int 1)) (.call "is_lane" [(.ix (.v 0) (.int 0))]))]⟩
def n_is_tearing : List Str := ["rest"]
def p_is_tearing : List Str := ["rest"]
theorem c_is_tearing : chkFn bis fns dfs cts t_is_tearing n_is_tearing p_is_tearing (stOf "is_tearing") = true := by decide +kernel
/-- is_bare: 0 rest -/
def t_is_bare : Fn := ⟨1, 1, [.ret (.cmp .eq (.v 0) (.tup []))]⟩
def n_is_bare : List Str := ["rest"]
def p_is_bare : List Str := ["rest"]
theorem c_is_bare : chkFn bis fns dfs cts t_is_bare n_is_bare p_is_bare (stOf "is_bare") = true := by decide +kernel
/-- is_step: 0 thing, 1 look -/
def t_is_step : Fn := ⟨1, 2, [.ite (.oo (.no (.isi (.v 0) .tuple)) (.oo (.cmp .eq (.b1 .len (.v 0)) (.int 0)) (.oo (.no (.isi (.ix (.v 0) (.int 0)) .str)) (.tin true "STEPS" [("go", "is_going"), ("get", "is_handling"), ("lose", "is_handling"), ("double", "is_handling"), ("tick", "is_bare"), ("tear", "is_tearing"), ("fall", "is_bare")] (.ix (.v 0) (.int 0)))))) [.ret (.bl false)] [], .asg (.n 1) (.tix "STEPS" [("go", "is_going"), ("get", "is_handling"), ("lose", "is_handling"), ("double", "is_handling"), ("tick", "is_bare"), ("tear", "is_tearing"), ("fall", "is_bare")] (.ix (.v 0) (.int 0))), .ret (.callv 1 ["is_bare", "is_going", "is_handling", "is_tearing"] [(.sl (.v 0) (.int 1) .non)])]⟩
def n_is_step : List Str := ["thing", "look"]
def p_is_step : List Str := ["thing"]
theorem c_is_step : chkFn bis fns dfs cts t_is_step n_is_step p_is_step (stOf "is_step") = true := by decide +kernel
/-- is_letter: 0 thing -/
def t_is_letter : Fn := ⟨1, 1, [.ite (.oo (.no (.isi (.v 0) .tuple)) (.oo (.cmp .lt (.b1 .len (.v 0)) (.int 3)) (.oo (.no (.isi (.ix (.v 0) (.int 0)) .str)) (.no (.call "are_numbers" [(.ix (.v 0) (.int 1)), (.int 3)]))))) [.ret (.bl false)] [], .ite (.cmp .eq (.ix (.v 0) (.int 0)) (.str "tell")) [.ret (.an (.cmp .eq (.b1 .len (.v 0)) (.int 3)) (.call "is_answer" [(.ix (.v 0) (.int 2))]))] [], .ite (.oo (.cmp .ne (.ix (.v 0) (.int 0)) (.str "ask")) (.oo (.cmp .ne (.b1 .len (.v 0)) (.int 6)) (.no (.call "is_word" [(.ix (.v 0) (.int 2))])))) [.ret (.bl false)] [], .ret (.an (.call "are_numbers" [(.sl (.v 0) (.int 3) .non), (.int 3)]) (.cmp .gt (.ix (.v 0) (.int 3)) (.int 0)))]⟩
def n_is_letter : List Str := ["thing"]
def p_is_letter : List Str := ["thing"]
theorem c_is_letter : chkFn bis fns dfs cts t_is_letter n_is_letter p_is_letter (stOf "is_letter") = true := by decide +kernel
/-- _law_feed: 0 _law_script -/
def n_law_feed : List Str := ["_law_script"]
def p_law_feed : List Str := ["_law_script"]
theorem c_law_feed : chkFn bis fns dfs cts t_law_feed n_law_feed p_law_feed (stOf "_law_feed") = true := by decide +kernel
/-- _law_draw: 0 _law_feed_here, 1 _law_many, 2 _law_cell, 3 _law_turn, 4 _law_mixed, 5 _law_told -/
def n_law_draw : List Str := ["_law_feed_here", "_law_many", "_law_cell", "_law_turn", "_law_mixed", "_law_told"]
def p_law_draw : List Str := ["_law_feed_here", "_law_many"]
theorem c_law_draw : chkFn bis fns dfs cts t_law_draw n_law_draw p_law_draw (stOf "_law_draw") = true := by decide +kernel
/-- _law_after: 0 _law_word_here, 1 _law_letters, 2 _law_at, 3 _law_sign -/
def t_law_after : Fn := ⟨1, 4, [.asg (.n 1) (.str "abcdefghijklmnopqrstuvwxyz"), .ite (.cmp .lt (.b1 .len (.v 0)) (.int 8)) [.ret (.bin .add (.v 0) (.str "a"))] [], .asg (.n 2) (.int 7), .whl (.an (.cmp .gt (.v 2) (.int 0)) (.cmp .eq (.ix (.v 0) (.v 2)) (.str "z"))) [.aug 2 .sub (.int 1)], .asg (.n 3) (.ix (.v 1) (.bin .mod (.bin .add (.m1 .index (.v 1) (.ix (.v 0) (.v 2))) (.int 1)) (.int 26))), .ret (.bin .add (.bin .add (.sl (.v 0) .non (.v 2)) (.v 3)) (.bin .rep (.str "a") (.bin .sub (.int 7) (.v 2))))]⟩
def n_law_after : List Str := ["_law_word_here", "_law_letters", "_law_at", "_law_sign"]
def p_law_after : List Str := ["_law_word_here"]
theorem c_law_after : chkFn bis fns dfs cts t_law_after n_law_after p_law_after (stOf "_law_after") = true := by decide +kernel
/-- _law_word: 0 _law_feed_here, 1 _law_found, 2 _law_letters, 3 _law_way, 4 _law_word_here, 5 _law_k, 6 _law_own -/
def t_law_word : Fn := ⟨2, 7, [.asg (.n 2) (.str "abcdefghijklmnopqrstuvwxyz"), .asg (.n 3) (.call "_law_draw" [(.v 0), (.int 5)]), .asg (.n 4) (.ix (.v 2) (.call "_law_draw" [(.v 0), (.int 26)])), .ite (.oo (.cmp .gt (.v 3) (.int 1)) (.cmp .eq (.v 1) (.lst []))) [.fr (.n 5) (.rg1 (.call "_law_draw" [(.v 0), (.int 8)])) [.asg (.n 4) (.bin .add (.v 4) (.ix (.v 2) (.call "_law_draw" [(.v 0), (.int 26)])))]] [.asg (.n 6) (.ix (.v 1) (.call "_law_draw" [(.v 0), (.b1 .len (.v 1))])), .asg (.n 4) (.ite (.cmp .eq (.v 3) (.int 0)) (.sl (.v 6) .non (.bin .add (.int 1) (.call "_law_draw" [(.v 0), (.b1 .len (.v 6))]))) (.bin .add (.sl (.v 6) .non (.int 7)) (.ix (.v 2) (.call "_law_draw" [(.v 0), (.int 26)]))))], .fr (.n 5) (.rg1 (.int 60)) [.ite (.cmp .notin (.v 4) (.v 1)) [.brk] [], .asg (.n 4) (.call "_law_after" [(.v 4)])], .retV 4]⟩
def n_law_word : List Str := ["_law_feed_here", "_law_found", "_law_letters", "_law_way", "_law_word_here", "_law_k", "_law_own"]
def p_law_word : List Str := ["_law_feed_here", "_law_found"]
theorem c_law_word : chkFn bis fns dfs cts t_law_word n_law_word p_law_word (stOf "_law_word") = true := by decide +kernel
/-- _law_bend: 0 _law_feed_here, 1 _law_thing_here, 2 _law_odd_here, 3 _law_way, 4 _law_at -/
def n_law_bend : List Str := ["_law_feed_here", "_law_thing_here", "_law_odd_here", "_law_way", "_law_at"]
def p_law_bend : List Str := ["_law_feed_here", "_law_thing_here", "_law_odd_here"]
theorem c_law_bend : chkFn bis fns dfs cts t_law_bend n_law_bend p_law_bend (stOf "_law_bend") = true := by decide +kernel
/-- _law_odd: 0 _law_small -/
def n_law_odd : List Str := ["_law_small"]
def p_law_odd : List Str := []
theorem c_law_odd : chkFn bis fns dfs cts t_law_odd n_law_odd p_law_odd (stOf "_law_odd") = true := by decide +kernel
/-- _law_whole: 0 _law_thing_here -/
def t_law_whole : Fn := ⟨1, 1, [.ret (.an (.isi (.v 0) .int) (.an (.no (.isi (.v 0) .bool)) (.cmp .gt (.v 0) (.neg (.int 1)))))]⟩
def n_law_whole : List Str := ["_law_thing_here"]
def p_law_whole : List Str := ["_law_thing_here"]
theorem c_law_whole : chkFn bis fns dfs cts t_law_whole n_law_whole p_law_whole (stOf "_law_whole") = true := by decide +kernel
/-- _law_worded: 0 _law_thing_here, 1 _law_sign -/
def t_law_worded : Fn := ⟨1, 2, [.ite (.oo (.no (.isi (.v 0) .str)) (.oo (.cmp .eq (.v 0) (.str "")) (.cmp .gt (.b1 .len (.v 0)) (.int 8)))) [.ret (.bl false)] [], .ret (.cmp .eq (.comp (.v 1) [1] (.e (.v 0)) (.oo (.cmp .lt (.b1 .ord (.v 1)) (.int 97)) (.cmp .gt (.b1 .ord (.v 1)) (.int 122))) [1]) (.lst []))]⟩
def n_law_worded : List Str := ["_law_thing_here", "_law_sign"]
def p_law_worded : List Str := ["_law_thing_here"]
theorem c_law_worded : chkFn bis fns dfs cts t_law_worded n_law_worded p_law_worded (stOf "_law_worded") = true := by decide +kernel
/-- _law_numbers: 0 _law_thing_here, 1 _law_many, 2 _law_one -/
def t_law_numbers : Fn := ⟨2, 3, [.ite (.oo (.no (.isi (.v 0) .tuple)) (.cmp .ne (.b1 .len (.v 0)) (.v 1))) [.ret (.bl false)] [], .ret (.cmp .eq (.comp (.v 2) [2] (.e (.v 0)) (.no (.call "_law_whole" [(.v 2)])) [2]) (.lst []))]⟩
def n_law_numbers : List Str := ["_law_thing_here", "_law_many", "_law_one"]
def p_law_numbers : List Str := ["_law_thing_here", "_law_many"]
theorem c_law_numbers : chkFn bis fns dfs cts t_law_numbers n_law_numbers p_law_numbers (stOf "_law_numbers") = true := by decide +kernel
/-- _law_answered: 0 _law_thing_here -/
def t_law_answered : Fn := ⟨1, 1, [.ite (.oo (.no (.isi (.v 0) .tuple)) (.oo (.cmp .eq (.v 0) (.tup [])) (.no (.isi (.ix (.v 0) (.int 0)) .str)))) [.ret (.bl false)] [], .ret (.oo (.cmp .eq (.b1 .repr (.v 0)) (.str "('late',)")) (.an (.cmp .eq (.ix (.v 0) (.int 0)) (.str "done")) (.call "_law_numbers" [(.sl (.v 0) (.int 1) .non), (.int 1)])))]⟩
def n_law_answered : List Str := ["_law_thing_here"]
def p_law_answered : List Str := ["_law_thing_here"]
theorem c_law_answered : chkFn bis fns dfs cts t_law_answered n_law_answered p_law_answered (stOf "_law_answered") = true := by decide +kernel
/-- _law_stepped: 0 _law_thing_here, 1 _law_many -/
def t_law_stepped : Fn := ⟨1, 2, [.ite (.oo (.no (.isi (.v 0) .tuple)) (.oo (.cmp .eq (.v 0) (.tup [])) (.no (.isi (.ix (.v 0) (.int 0)) .str)))) [.ret (.bl false)] [], .asg (.n 1) (.o2 .get (.dct ["go", "get", "lose", "double", "tick", "tear", "fall"] [(.int 1), (.int 2), (.int 2), (.int 2), (.int 0), (.int 1), (.int 0)]) (.ix (.v 0) (.int 0))), .ite (.oo (.cmp .isn (.v 1) .non) (.no (.call "_law_numbers" [(.sl (.v 0) (.int 1) .non), (.v 1)]))) [.ret (.bl false)] [], .ret (.oo (.cmp .inn (.ix (.v 0) (.int 0)) (.tup [(.str "go"), (.str "tick"), (.str "fall")])) (.cmp .inn (.ix (.v 0) (.int 1)) (.tup [(.int 0), (.int 1)])))]⟩
def n_law_stepped : List Str := ["_law_thing_here", "_law_many"]
def p_law_stepped : List Str := ["_law_thing_here"]
theorem c_law_stepped : chkFn bis fns dfs cts t_law_stepped n_law_stepped p_law_stepped (stOf "_law_stepped") = true := by decide +kernel
/-- _law_lettered: 0 _law_thing_here -/
def t_law_lettered : Fn := ⟨1, 1, [.ite (.oo (.no (.isi (.v 0) .tuple)) (.oo (.cmp .lt (.b1 .len (.v 0)) (.int 3)) (.no (.isi (.ix (.v 0) (.int 0)) .str)))) [.ret (.bl false)] [], .ite (.no (.call "_law_numbers" [(.ix (.v 0) (.int 1)), (.int 3)])) [.ret (.bl false)] [], .ite (.cmp .eq (.ix (.v 0) (.int 0)) (.str "tell")) [.ret (.an (.cmp .eq (.b1 .len (.v 0)) (.int 3)) (.call "_law_answered" [(.ix (.v 0) (.int 2))]))] [], .ret (.an (.cmp .eq (.ix (.v 0) (.int 0)) (.str "ask")) (.an (.call "_law_worded" [(.ix (.v 0) (.int 2))]) (.an (.call "_law_numbers" [(.sl (.v 0) (.int 3) .non), (.int 3)]) (.cmp .ne (.ix (.v 0) (.int 3)) (.int 0)))))]⟩
def n_law_lettered : List Str := ["_law_thing_here"]
def p_law_lettered : List Str := ["_law_thing_here"]
theorem c_law_lettered : chkFn bis fns dfs cts t_law_lettered n_law_lettered p_law_lettered (stOf "_law_lettered") = true := by decide +kernel
/-- _law_thing: 0 _law_feed_here, 1 _law_answer, 2 _law_ask, 3 _law_steps, 4 _law_number, 5 _law_lane, 6 _law_key, 7 _law_k -/
def t_law_thing : Fn := ⟨1, 8, [.par [4, 5, 6] [(.call "_law_draw" [(.v 0), (.int 50)]), (.call "_law_draw" [(.v 0), (.int 2)]), (.b1 .tuple (.comp (.call "_law_draw" [(.v 0), (.int 4)]) [7] (.rg1 (.int 3)) (.bl true) [7]))], .asg (.n 1) (.ix (.tup [(.tup [(.str "late")]), (.tup [(.str "done"), (.v 4)])]) (.call "_law_draw" [(.v 0), (.int 2)])), .asg (.n 2) (.tup [(.str "ask"), (.v 6), (.call "_law_word" [(.v 0), (.lst [])]), (.bin .add (.int 1) (.v 4)), (.call "_law_draw" [(.v 0), (.int 30)]), (.call "_law_draw" [(.v 0), (.int 6)])]), .asg (.n 3) (.lst [(.tup [(.str "go"), (.bin .mod (.v 4) (.int 4))]), (.tup [(.str "get"), (.v 5), (.v 4)]), (.tup [(.str "lose"), (.v 5), (.v 4)]), (.tup [(.str "double"), (.v 5), (.v 4)]), (.tup [(.str "tick")])]), .ret (.ix (.bin .add (.v 3) (.lst [(.tup [(.str "tear"), (.v 5)]), (.tup [(.str "fall")]), (.v 2), (.v 2), (.tup [(.str "tell"), (.v 6), (.v 1)]), (.v 1)])) (.call "_law_draw" [(.v 0), (.int 11)]))]⟩
def n_law_thing : List Str := ["_law_feed_here", "_law_answer", "_law_ask", "_law_steps", "_law_number", "_law_lane", "_law_key", "_law_k"]
def p_law_thing : List Str := ["_law_feed_here"]
theorem c_law_thing : chkFn bis fns dfs cts t_law_thing n_law_thing p_law_thing (stOf "_law_thing") = true := by decide +kernel
/-- _law_fixed: 0 _law_key, 1 _law_found -/
def t_law_fixed : Fn := ⟨0, 2, [.asg (.n 0) (.tup [(.int 0), (.int 1), (.int 2)]), .asg (.n 1) (.lst [.non, (.tup []), (.int 0), (.str ""), (.lst []), (.str "tick"), (.tup [(.str "tick")]), (.lst [(.str "tick")]), (.tup [(.str "tick"), (.int 0)]), (.tup [(.str "fall")]), (.tup [(.str "fall"), .non]), (.tup [(.str "Tick")])]), .mu .append (.v 1) (.tup [(.str "go"), (.int 0)]), .mu .extend (.v 1) (.lst [(.tup [(.str "go"), (.int 99)]), (.tup [(.str "go"), (.neg (.int 1))]), (.tup [(.str "go"), (.bl true)]), (.tup [(.str "go")]), (.tup [(.str "go"), (.int 0), (.int 0)]), (.tup [(.str "go"), (.str "0")]), (.tup [(.str "get"), (.int 0), (.int 0)])]), .mu .append (.v 1) (.tup [(.str "get"), (.int 1), (.bin .pow (.int 10) (.int 60))]), .mu .extend (.v 1) (.lst [(.tup [(.str "get"), (.int 2), (.int 0)]), (.tup [(.str "get"), (.int 0)]), (.tup [(.str "get"), (.int 0), (.neg (.int 1))]), (.tup [(.str "get"), (.bl true), (.int 0)]), (.tup [(.str "get"), (.int 0), (.int 0), (.int 0)]), (.tup [(.str "lose"), (.int 1), (.int 1)])]), .mu .append (.v 1) (.tup [(.str "lose"), (.lst [(.int 0)]), (.int 1)]), .mu .extend (.v 1) (.lst [(.tup [(.str "double"), (.int 0), .non]), (.tup [(.str "double"), (.int 0), (.int 3)]), (.tup [(.str "tear"), (.int 0)]), (.tup [(.str "tear"), (.int 1)]), (.tup [(.str "tear"), (.int 2)]), (.tup [(.str "tear")])]), .mu .append (.v 1) (.tup [(.str "tear"), (.bl false)]), .mu .extend (.v 1) (.lst [(.tup [(.str "late")]), (.tup [(.str "late"), (.int 0)]), (.tup [(.str "done"), (.int 0)]), (.tup [(.str "done"), (.bin .pow (.int 10) (.int 60))]), (.tup [(.str "done"), (.neg (.int 1))]), (.tup [(.str "done"), (.bl true)]), (.tup [(.str "done")])]), .mu .append (.v 1) (.lst [(.str "late")]), .mu .extend (.v 1) (.lst [(.tup [(.str "tell"), (.v 0), (.tup [(.str "late")])]), (.tup [(.str "tell"), (.v 0), (.tup [(.str "done"), (.int 1)])]), (.tup [(.str "tell"), (.v 0), .non]), (.tup [(.str "tell"), (.v 0)])]), .mu .append (.v 1) (.tup [(.str "tell"), (.sl (.v 0) .non (.int 2)), (.tup [(.str "late")])]), .mu .extend (.v 1) (.lst [(.tup [(.str "tell"), (.b1 .list (.v 0)), (.tup [(.str "late")])]), (.tup [(.str "tell"), (.v 0), (.tup [(.str "late")]), (.int 0)]), (.tup [(.str "tell"), (.tup [(.int 0), (.int 0), (.neg (.int 1))]), (.tup [(.str "late")])])]), .mu .append (.v 1) (.tup [(.str "tell"), (.v 0), (.lst [(.str "late")])]), .mu .extend (.v 1) (.lst [(.tup [(.str "ask"), (.v 0), (.str "a"), (.int 1), (.int 0), (.int 0)]), (.tup [(.str "ask"), (.v 0), (.str "a"), (.int 0), (.int 0), (.int 0)]), (.tup [(.str "ask"), (.v 0), (.str "A"), (.int 1), (.int 0), (.int 0)])]), .mu .append (.v 1) (.tup [(.str "ask"), (.v 0), (.str "a"), (.int 1), (.neg (.int 1)), (.int 0)]), .mu .extend (.v 1) (.lst [(.tup [(.str "ask"), (.v 0), (.str "a"), (.int 1), (.int 0)]), (.tup [(.str "ask"), (.v 0), (.str "a"), (.int 1), (.int 0), (.int 0), (.int 0)]), (.tup [(.str "ask"), (.tup [(.int 0), (.bl true), (.int 0)]), (.str "a"), (.int 1), (.int 0), (.int 0)])]), .mu .append (.v 1) (.tup [(.str "ask"), (.v 0), (.str "a"), (.int 1), (.int 0), (.bl true)]), .ret (.bin .add (.v 1) (.lst [(.tup [(.str "ask"), (.v 0), .non, (.int 1), (.int 0), (.int 0)]), (.tup [(.str "asks"), (.v 0), (.str "a"), (.int 1), (.int 0), (.int 0)]), (.tup [(.lst [(.str "go")]), (.int 0)]), (.tup [.non, (.int 0)]), (.tup [(.str "reap"), (.int 0)])]))]⟩
def n_law_fixed : List Str := ["_law_key", "_law_found"]
def p_law_fixed : List Str := []
theorem c_law_fixed : chkFn bis fns dfs cts t_law_fixed n_law_fixed p_law_fixed (stOf "_law_fixed") = true := by decide +kernel
/-- _law_near: 0 _law_feed_here, 1 _law_thing_here, 2 _law_bent, 3 _law_words, 4 _law_found -/
def t_law_near : Fn := ⟨2, 5, [.asg (.n 2) (.call "_law_bend" [(.v 0), (.v 1), (.call "_law_odd" [])]), .asg (.n 3) (.tup [(.str "go"), (.str "get"), (.str "lose"), (.str "double"), (.str "tick"), (.str "tear"), (.str "fall"), (.str "ask"), (.str "tell"), (.str "late"), (.str "done"), (.str "")]), .asg (.n 4) (.lst [(.v 1), (.v 2), (.call "_law_bend" [(.v 0), (.v 2), (.call "_law_odd" [])]), (.b1 .list (.v 1)), (.sl (.v 1) (.int 1) .non), (.sl (.v 1) .non (.neg (.int 1))), (.bin .add (.v 1) (.sl (.v 1) (.neg (.int 1)) .non))]), .mu .append (.v 4) (.back (.v 1)), .ret (.bin .add (.v 4) (.lst [(.bin .add (.tup [(.ix (.v 3) (.call "_law_draw" [(.v 0), (.int 12)]))]) (.sl (.v 1) (.int 1) .non)), (.tup [(.v 1)]), (.bin .add (.v 1) (.tup [(.int 0)]))]))]⟩
def n_law_near : List Str := ["_law_feed_here", "_law_thing_here", "_law_bent", "_law_words", "_law_found"]
def p_law_near : List Str := ["_law_feed_here", "_law_thing_here"]
theorem c_law_near : chkFn bis fns dfs cts t_law_near n_law_near p_law_near (stOf "_law_near") = true := by decide +kernel
/-- law: 0 _law_script, 1 _law_feed_here, 2 _law_things, 3 _law_k, 4 _law_kept, 5 _law_thing_here, 6 _law_told -/
def t_law : Fn := ⟨1, 7, [.asg (.n 1) (.rf (.call "_law_feed" [(.v 0)])), .asg (.n 2) (.call "_law_fixed" []), .fr (.n 3) (.rg1 (.int 40)) [.mu .extend (.v 2) (.call "_law_near" [(.v 1), (.call "_law_thing" [(.v 1)])])], .asg (.n 4) (.b1 .repr (.v 2)), .fz 2, .fr (.n 5) (.e (.v 2)) [.asg (.n 6) (.tup [(.call "is_answer" [(.v 5)]), (.call "is_step" [(.v 5)]), (.call "is_letter" [(.v 5)])]), .ite (.cmp .ne (.b1 .repr (.v 6)) (.b1 .repr (.tup [(.call "_law_answered" [(.v 5)]), (.call "_law_stepped" [(.v 5)]), (.call "_law_lettered" [(.v 5)])]))) [.ret (.bl false)] []], .ret (.cmp .eq (.b1 .repr (.v 2)) (.v 4))]⟩
def n_law : List Str := ["_law_script", "_law_feed_here", "_law_things", "_law_k", "_law_kept", "_law_thing_here", "_law_told"]
def p_law : List Str := ["_law_script"]
theorem c_law : chkFn bis fns dfs cts t_law n_law p_law (stOf "law") = true := by decide +kernel
def cons : List (Str × D) := [("LETTERS", .str "abcdefghijklmnopqrstuvwxyz"), ("LONGEST", .int 8)]
def co : ConT := fun x => cons.lookup x
def pgs : List (Str × Fn) := [("is_number", t_is_number), ("is_word", t_is_word), ("are_numbers", t_are_numbers), ("is_answer", t_is_answer), ("is_lane", t_is_lane), ("is_going", t_is_going), ("is_handling", t_is_handling), ("is_tearing", t_is_tearing), ("is_bare", t_is_bare), ("is_step", t_is_step), ("is_letter", t_is_letter), ("_law_feed", t_law_feed), ("_law_draw", t_law_draw), ("_law_after", t_law_after), ("_law_word", t_law_word), ("_law_bend", t_law_bend), ("_law_odd", t_law_odd), ("_law_whole", t_law_whole), ("_law_worded", t_law_worded), ("_law_numbers", t_law_numbers), ("_law_answered", t_law_answered), ("_law_stepped", t_law_stepped), ("_law_lettered", t_law_lettered), ("_law_thing", t_law_thing), ("_law_fixed", t_law_fixed), ("_law_near", t_law_near), ("law", t_law)]
def pg : Pg := fun x => pgs.lookup x
end K12

set_option maxHeartbeats 0
--mac3
namespace K12
open PySem PySem.Spec PyProof.Rows L2 Mi
abbrev cn : ConT := co
abbrev CD (k : Nat) : CallT := callD pg cn k
section
variable {k : Nat} {hp : HpD} {Q : SK} {E : EK}
/-- small enough -/
structure Sm1 (x : D) : Prop where
  ok : okN 720 x = true
  tl : tl x ≤ 2000000
  dp : dpD x ≤ 30
theorem Sm1.pl {x : D} (h : Sm1 x) : plD x = true := okN_pl h.ok
theorem Sm1.at {l : List D} {x : D} (h : Sm1 (.tup l)) (hx : x ∈ l) : Sm1 x := by
  have h1 : okNs 720 l = true := h.ok
  have h2 := h.tl
  have h3 := h.dp
  simp only [Mi.tl] at h2
  simp only [dpD] at h3
  have h4 := tls_mem hx
  have h5 := dpDs_le.mp (Nat.le_refl _) x hx
  exact ⟨okNs_iff.mp h1 x hx, by omega, by omega⟩
theorem Sm1.len {x : D} (h : Sm1 x) : ∀ l, x = .tup l → l.length ≤ sizeLine := fun l e => by
  subst e
  have h2 := h.tl
  simp only [Mi.tl] at h2
  have := tls_len l
  rw [sizeLine_eq]; omega
theorem filt_step {α : Type} {p : α → Bool} {l : List α} {i : Nat} {y : α} (e : l[i]? = some y) : (l.take (i + 1)).filter p = if p y = true then (l.take i).filter p ++ [y] else (l.take i).filter p := by
  rw [List.take_add_one, e, List.filter_append]
  by_cases h : p y = true <;> simp [h]
theorem filt_nil {α : Type} {p : α → Bool} {l : List α} : l.filter p = [] ↔ l.all (fun y => !p y) = true := by
  rw [List.filter_eq_nil_iff, List.all_eq_true]
  exact ⟨fun h x hx => by simpa using h x hx, fun h x hx => by simpa using h x hx⟩
theorem s_whole {x : D} (hx : plD x = true) (h : Q (.d (.bl (isNum x))) hp) : CD (k + 1) "_law_whole" [x] hp Q E := by
  refine call_intro (F := t_law_whole) rfl rfl ?_
  generalize callD pg cn k = cl
  show wss cl cn t_law_whole.body [some (.d x)] hp _
  unfold t_law_whole
  dsimp only
  cases x with
  | int i =>
    expose_names
    have e : decide (-1 < i) = isNum (.int i) := by
      unfold isNum
      exact decide_eq_decide.mpr (by omega)
    rw [e]; exact h
  | ref _ => cases hx
  | fn _ => cases hx
  | _ =>
    expose_names
    exact h
/-! words -/
def low (c : Nat) : Bool := decide (97 ≤ c) && decide (c ≤ 122)
def isWd : D → Bool
  | .str s => decide (1 ≤ s.length) && decide (s.length ≤ 8) && s.cps.toList.all low
  | _ => false
theorem letters (c : Nat) : decide (c ∈ (("abcdefghijklmnopqrstuvwxyz" : Str)).cps.toList) = low c := by
  have e : (("abcdefghijklmnopqrstuvwxyz" : Str)).cps.toList = (List.range 26).map (· + 97) := by decide +kernel
  rw [e]
  have h : (c ∈ (List.range 26).map (· + 97)) ↔ (97 ≤ c ∧ c ≤ 122) := by
    simp only [List.mem_map, List.mem_range]
    constructor
    · rintro ⟨a, h1, rfl⟩; omega
    · rintro ⟨h1, h2⟩; exact ⟨c - 97, by omega, by omega⟩
  unfold low
  by_cases z : 97 ≤ c ∧ c ≤ 122
  · rw [decide_eq_true (h.mpr z), decide_eq_true z.1, decide_eq_true z.2]; rfl
  · rw [decide_eq_false (fun q => z (h.mp q))]
    by_cases z1 : 97 ≤ c
    · rw [decide_eq_false (fun q => z ⟨z1, q⟩), Bool.and_false]
    · rw [decide_eq_false z1]; rfl
abbrev chs (l : List Nat) : List D := l.map fun c => .str ⟨#[c]⟩
theorem chs_at {l : List Nat} {i : Nat} {x : D} (h : (chs l)[i]? = some x) : ∃ c, l[i]? = some c ∧ x = .str ⟨#[c]⟩ := by
  rw [List.getElem?_map] at h
  obtain ⟨y, h1, h2⟩ := Option.map_eq_some_iff.mp h
  exact ⟨y, h1, h2.symm⟩
theorem c_inCh {c : Nat} {z : Str} {K : Bool → Prop} (h : K (decide (c ∈ z.cps.toList))) : opCmp .inn (.d (.str ⟨#[c]⟩)) (.d (.str z)) hp K := ⟨rfl, h⟩
theorem s_isword {x : D} (hx : Sm1 x) (h : Q (.d (.bl (isWd x))) hp) : CD (k + 1) "is_word" [x] hp Q E := by
  refine call_intro (F := t_is_word) rfl rfl ?_
  have hc := call_mono pg cn k
  generalize callD pg cn k = cl at hc ⊢
  show wss cl cn t_is_word.body [some (.d x), none] hp _
  unfold t_is_word
  dsimp only
  have hok := hx.ok
  have hz := sizeLine_eq
  cases x with
  | str s =>
    have htl := hx.tl
    simp only [Mi.tl] at htl
    have e0 : isWd (.str s) = (decide (1 ≤ s.length) && decide (s.length ≤ 8) && s.cps.toList.all low) := rfl
    have hls : s.cps.toList.length = s.length := Array.length_toList
    refine w_cons ?_
    bv_omega
    refine l_str (by omega) ?_
    bv_omega
    have tail : s.length ≤ 8 → 1 ≤ s.length → wss cl cn (t_is_word.body.drop 1) [some (.d (.str s)), none] hp ⟨fun _ hp => Q (.d .non) hp, Q, noNx, noNx, fun c fs _ hp => E c fs hp⟩ := fun h1 h2 => by
      unfold t_is_word
      dsimp only [List.drop]
      expose_names
      refine r_cmpr hc rfl (i_eB ?_)
      expose_names
      refine sk_str ⟨fun _ => trivial, fun i acc hp' => acc = ((s.cps.toList.take i).map low).map D.bl ∧ hp' = hp, ⟨rfl, rfl⟩, ?_, ?_⟩
      · rintro i y acc hp' e ⟨rfl, rfl⟩
        obtain ⟨c, e1, rfl⟩ := chs_at e
        have hi : i < s.cps.toList.length := (List.getElem?_eq_some_iff.mp e1).1
        refine ⟨_, rfl, ?_⟩
        expose_names
        refine c_inCh ?_
        rw [letters]
        expose_names
        refine ⟨by simp; omega, ?_, rfl⟩
        rw [List.take_add_one, e1]; simp
      · rintro acc hp' ⟨rfl, rfl⟩
        rw [List.length_map, List.take_length]
        refine b_all ?_
        rw [e0, decide_eq_true h1, decide_eq_true h2] at h
        rw [List.all_map]
        exact h
    have c1 : decide ((1 : Int) ≤ (s.length : Int)) = decide (1 ≤ s.length) := decide_eq_decide.mpr (by omega)
    refine if_D (fun z1 => ?_) (fun z1 => ?_)
    · bv_omega
      refine if_N (fun z2 => ?_) (fun z2 => ?_)
      · expose_names
        rw [e0, decide_eq_false (by omega : ¬ s.length ≤ 8), Bool.and_false] at h
        exact h
      · bv_omega
        exact tail (by omega) (by omega)
    · expose_names
      rw [e0, decide_eq_false (by omega : ¬ 1 ≤ s.length)] at h
      exact h
  | ref _ => cases hok
  | fn _ => cases hok
  | _ =>
    expose_names
    exact h
theorem Sm1.sub {l m : List D} (h : Sm1 (.tup l)) (hm : ∃ n, m = l.drop n) : Sm1 (.tup m) := by
  obtain ⟨n, rfl⟩ := hm
  have h1 : okNs 720 l = true := h.ok
  have h2 := h.tl
  have h3 := h.dp
  simp only [Mi.tl] at h2
  simp only [dpD] at h3
  have h4 := tls_drop l n
  have h5 := dpDs_drop (m := 29) (l := l) (by omega) n
  refine ⟨okNs_drop h1 n, ?_, ?_⟩
  · show tls _ + 3 ≤ _; omega
  · show dpDs _ + 1 ≤ _; omega
end
end K12

set_option maxHeartbeats 0
--mac3
namespace K12
open PySem PySem.Spec PyProof.Rows L2 Mi
section
variable {k : Nat} {hp : HpD} {Q : SK} {E : EK}
theorem pds_chs : ∀ l : List Nat, (∀ c ∈ l, c < 0x110000) → D.pds (chs l) = some (l.map fun c => .str ⟨#[c]⟩)
  | [], _ => rfl
  | c :: r, h => by
    have h1 : c < 0x110000 := h c (.head _)
    have e : D.pd (.str ⟨#[c]⟩) = some (.str ⟨#[c]⟩) := by
      have : PyData.strOk ⟨#[c]⟩ = true := by simp [PyData.strOk, h1]
      simp only [D.pd]; rw [if_pos this]
    show (match D.pd (.str ⟨#[c]⟩), D.pds (chs r) with | some a, some b => some (a :: b) | _, _ => none) = _
    rw [e, pds_chs r fun c hc => h c (.tail _ hc)]; rfl
theorem c_eqChs {l : List Nat} {K : Bool → Prop} (hl : ∀ c ∈ l, c < 0x110000) (h : K (decide (l = []))) : opCmp .eq (.ol (chs l)) (.ol []) hp K := by
  show onSome ((D.pds (chs l)).map PyData.list) fun a => onSome ((D.pds []).map PyData.list) fun b => min a.depth b.depth ≤ 64 ∧ K (PyData.eqv a b)
  rw [pds_chs l hl]
  refine ⟨Nat.le_trans (Nat.min_le_right _ _) (by simp [PyData.depth, PyData.depthAll]), ?_⟩
  have z : PyData.eqv (.list (l.map fun c => .str ⟨#[c]⟩)) (.list []) = decide (l = []) := by cases l <;> simp [PyData.eqv, PyData.eqvAll]
  show K (PyData.eqv (.list (l.map fun c => .str ⟨#[c]⟩)) (.list []))
  rw [z]; exact h
theorem strOk_lt' {s : Str} (h : PyData.strOk s = true) : ∀ c ∈ s.cps.toList, c < 0x110000 := fun c hc => by
  have h2 : s.cps.all (· < 0x110000) = true := h
  rw [Array.all_eq_true'] at h2
  simpa using h2 c (by simpa using hc)
theorem ord1 {c : Nat} (h : Q (.d (.int (c : Nat))) hp) : opB1 .ord (.d (.str ⟨#[c]⟩)) hp Q := ⟨rfl, h⟩
theorem s_worded {x : D} (hx : Sm1 x) (h : Q (.d (.bl (isWd x))) hp) : CD (k + 1) "_law_worded" [x] hp Q E := by
  refine call_intro (F := t_law_worded) rfl rfl ?_
  have hc := call_mono pg cn k
  generalize callD pg cn k = cl at hc ⊢
  show wss cl cn t_law_worded.body [some (.d x), none] hp _
  unfold t_law_worded
  dsimp only
  have hok := hx.ok
  have hz := sizeLine_eq
  cases x with
  | str s =>
    have htl := hx.tl
    simp only [Mi.tl] at htl
    have hok' : PyData.strOk s = true := hok
    have e0 : isWd (.str s) = (decide (1 ≤ s.length) && decide (s.length ≤ 8) && s.cps.toList.all low) := rfl
    have hls : s.cps.toList.length = s.length := Array.length_toList
    refine w_cons ?_
    bv_omega
    refine if_D (fun z1 => ?_) (fun z1 => ?_)
    · expose_names
      have : s.length = 0 := by rw [z1]; rfl
      rw [e0, decide_eq_false (by omega : ¬ 1 ≤ s.length)] at h
      exact h
    · have l1 : 1 ≤ s.length := by
        rcases Nat.eq_zero_or_pos s.length with q | q
        · refine (z1 ?_).elim
          have : s.cps = #[] := Array.eq_empty_of_size_eq_zero q
          cases s with
          | mk c => rw [show c = #[] from this]; rfl
        · exact q
      bv_omega
      refine l_str (by omega) ?_
      bv_omega
      refine if_D (fun z2 => ?_) (fun z2 => ?_)
      · expose_names
        rw [e0, decide_eq_false (by omega : ¬ s.length ≤ 8), Bool.and_false] at h
        exact h
      · expose_names
        refine r_cmpr hc rfl (i_eB ?_)
        expose_names
        refine sk_str ⟨fun _ => trivial, fun i acc hp' => acc = chs ((s.cps.toList.take i).filter fun c => !low c) ∧ hp' = hp, ⟨rfl, rfl⟩, ?_, ?_⟩
        · rintro i y acc hp' e ⟨rfl, rfl⟩
          obtain ⟨c, e1, rfl⟩ := chs_at e
          have hi : i < s.cps.toList.length := (List.getElem?_eq_some_iff.mp e1).1
          have st := filt_step (p := fun c => !low c) e1
          have hlen : (chs ((s.cps.toList.take i).filter fun c => !low c)).length < sizeLine := by
            have h1 := List.length_filter_le (fun c => !low c) (s.cps.toList.take i)
            rw [List.length_take] at h1
            rw [List.length_map]; omega
          have yes : low c = false → (chs ((s.cps.toList.take i).filter fun c => !low c) ++ [.str ⟨#[c]⟩] = chs ((s.cps.toList.take (i + 1)).filter fun c => !low c) ∧ hp' = hp') := fun q => ⟨by rw [st, q]; simp, rfl⟩
          have no : low c = true → (chs ((s.cps.toList.take i).filter fun c => !low c) = chs ((s.cps.toList.take (i + 1)).filter fun c => !low c) ∧ hp' = hp') := fun q => ⟨by rw [st, q]; rfl, rfl⟩
          refine ⟨_, rfl, ?_⟩
          expose_names
          refine ord1 ?_
          expose_names
          refine if_D (fun q1 => ?_) (fun q1 => ?_)
          · expose_names
            exact yes (by unfold low; rw [decide_eq_false (by omega : ¬ 97 ≤ c)]; rfl)
          · expose_names
            refine ord1 ?_
            expose_names
            refine if_D (fun q2 => ?_) (fun q2 => ?_)
            · expose_names
              exact yes (by unfold low; rw [decide_eq_false (by omega : ¬ c ≤ 122), Bool.and_false])
            · exact no (by unfold low; rw [decide_eq_true (by omega : 97 ≤ c), decide_eq_true (by omega : c ≤ 122)]; rfl)
        · rintro acc hp' ⟨rfl, rfl⟩
          rw [List.length_map, List.take_length]
          expose_names
          refine c_eqChs (fun c hc => strOk_lt' hok' c (List.mem_filter.mp hc).1) ?_
          have e2 : decide ((s.cps.toList.filter fun c => !low c) = []) = s.cps.toList.all low := by
            refine Bool.eq_iff_iff.mpr ?_
            rw [decide_eq_true_iff, filt_nil]
            simp
          rw [e2]
          rw [e0, decide_eq_true l1, decide_eq_true (by omega : s.length ≤ 8)] at h
          exact h
  | ref _ => cases hok
  | fn _ => cases hok
  | _ =>
    expose_names
    exact h
theorem c_neOlNil {n : Nat} {l : List D} {K : Bool → Prop} (hn : n ≤ 1900) (hl : okNs n l = true) (h : K (!decide (l = []))) : opCmp .ne (.ol l) (.ol []) hp K := by
  obtain ⟨ds, e, _⟩ := shows_ok hn hl
  refine c_neOl (a := ds) (b := []) e rfl (Nat.le_trans (Nat.min_le_right _ _) (by simp [PyData.depth, PyData.depthAll])) ?_
  have z : PyData.eqvAll ds [] = decide (l = []) := by
    cases l with
    | nil => cases e; rfl
    | cons x r =>
      simp only [D.pds] at e
      split at e
      · cases e; rfl
      · cases e
  rw [z]; exact h
theorem c_eqOlNil {n : Nat} {l : List D} {K : Bool → Prop} (hn : n ≤ 1900) (hl : okNs n l = true) (h : K (decide (l = []))) : opCmp .eq (.ol l) (.ol []) hp K := by
  have := c_neOlNil (hp := hp) (K := fun b => K (!b)) hn hl (by rw [Bool.not_not]; exact h)
  have e : opCmp .ne (.ol l) (.ol []) hp (fun b => K (!b)) = opCmp .eq (.ol l) (.ol []) hp (fun b => K (!!b)) := rfl
  rw [e] at this
  simp only [Bool.not_not] at this
  exact this
theorem filt_all (p : D → Bool) (l : List D) : decide ((l.filter fun y => !p y) = []) = l.all p := by
  refine Bool.eq_iff_iff.mpr ?_
  rw [decide_eq_true_iff, filt_nil]
  simp
theorem Sm1.oks {l : List D} (h : Sm1 (.tup l)) (p : D → Bool) : okNs 720 (l.filter p) = true := okNs_iff.mpr fun y hy => okNs_iff.mp (show okNs 720 l = true from h.ok) y (List.mem_filter.mp hy).1
/-- those that are otherwise -/
theorem filt_go {l : List D} {p : D → Bool} {i : Nat} {y : D} {hp hp' : HpD} (hz : l.length ≤ sizeLine) (e : l[i]? = some y) :
    (p y = false → ((l.take i).filter fun y => !p y).length < sizeLine ∧ (((l.take i).filter fun y => !p y) ++ [y] = (l.take (i + 1)).filter (fun y => !p y) ∧ hp = hp)) ∧ (p y = true → (((l.take i).filter fun y => !p y) = (l.take (i + 1)).filter (fun y => !p y) ∧ hp = hp)) := by
  have hi : i < l.length := (List.getElem?_eq_some_iff.mp e).1
  have hlen : ((l.take i).filter fun y => !p y).length < sizeLine := by
    have h1 := List.length_filter_le (fun y => !p y) (l.take i)
    rw [List.length_take] at h1
    omega
  have st := filt_step (p := fun y => !p y) e
  exact ⟨fun c => ⟨hlen, by rw [st, c]; rfl, rfl⟩, fun c => ⟨by rw [st, c]; rfl, rfl⟩⟩
theorem s_numbers {x : D} {n : Int} (hx : Sm1 x) (h : Q (.d (.bl (areN x n))) hp) : CD (k + 2) "_law_numbers" [x, .int n] hp Q E := by
  refine call_intro (F := t_law_numbers) rfl rfl ?_
  have hc := call_mono pg cn (k + 1)
  show wss (CD (k + 1)) cn t_law_numbers.body [some (.d x), some (.d (.int n)), none] hp _
  unfold t_law_numbers
  dsimp only
  have hok := hx.ok
  cases x with
  | tup l =>
    have hz := hx.len l rfl
    have e0 : areN (.tup l) n = (decide ((l.length : Int) = n) && l.all isNum) := rfl
    rw [e0] at h
    refine w_cons ?_
    bv_omega
    refine if_N (fun c => ?_) (fun c => ?_)
    · rw [decide_eq_false c] at h
      expose_names
      exact h
    · rw [decide_eq_true c] at h
      expose_names
      refine r_cmpr hc rfl (i_eB ?_)
      expose_names
      refine s_tup ⟨fun _ => trivial, fun i acc hp' => acc = (l.take i).filter (fun y => !isNum y) ∧ hp' = hp, ⟨rfl, rfl⟩, ?_, ?_⟩
      · rintro i y acc hp' e ⟨rfl, rfl⟩
        obtain ⟨yes, no⟩ := filt_go (p := isNum) (hp := hp') (hp' := hp') hz e
        refine ⟨_, rfl, ?_⟩
        expose_names
        refine s_whole (hx.at (List.mem_of_getElem? e)).pl ?_
        cases c : isNum y with
        | true =>
          expose_names
          exact no c
        | false =>
          expose_names
          exact yes c
      · rintro acc hp' ⟨rfl, rfl⟩
        rw [List.take_length]
        expose_names
        refine c_eqOlNil (n := 720) (by decide) (hx.oks _) ?_
        rw [filt_all]
        exact h
  | ref _ => cases hok
  | fn _ => cases hok
  | _ =>
    expose_names
    exact h
end
end K12

set_option maxHeartbeats 0
--mac3
namespace K12
open PySem PySem.Spec PyProof.Rows L2 Mi
section
variable {k : Nat} {hp : HpD} {Q : SK} {E : EK}
theorem at0 {a : D} {r : List D} : atI (a :: r) 0 = some a := by
  unfold atI ixN
  rw [if_pos (by decide), if_pos (by simp only [List.length_cons]; omega)]; rfl
theorem at1 {a b : D} {r : List D} : atI (a :: b :: r) 1 = some b := by
  unfold atI ixN
  rw [if_pos (by decide), if_pos (by simp only [List.length_cons]; omega)]; rfl
theorem at2 {a b c : D} {r : List D} : atI (a :: b :: c :: r) 2 = some c := by
  unfold atI ixN
  rw [if_pos (by decide), if_pos (by simp only [List.length_cons]; omega)]; rfl
def isAns : D → Bool
  | .tup [.str s] => decide (s = "late")
  | .tup [.str s, y] => decide (s = "done") && isNum y
  | _ => false
theorem eqvAll_nil : ∀ ds : List PyData, PyData.eqvAll ds [] = decide (ds = [])
  | [] => rfl
  | _ :: _ => rfl
theorem eqv_strT (s t : Str) : PyData.eqv (.str s) (.str t) = decide (s = t) := by
  simp only [PyData.eqv]
  by_cases e : s = t
  · subst e; simp
  · simp [e]
theorem c_late {s : Str} {r : List D} {K : Bool → Prop} (h : okNs 720 (.str s :: r) = true) (q : K (decide (s = "late") && decide (r = []))) : opCmp .eq (.d (.tup (.str s :: r))) (.d (.tup [.str "late"])) hp K := by
  obtain ⟨ds, e, _⟩ := shows_ok (by decide) h
  show onSome ((D.pds (.str s :: r)).map PyData.tuple) fun a => onSome ((D.pds [.str "late"]).map PyData.tuple) fun b => min a.depth b.depth ≤ 64 ∧ K (PyData.eqv a b)
  have ok : PyData.strOk "late" = true := by decide +kernel
  have e2 : D.pds [.str "late"] = some [.str "late"] := by simp [D.pds, D.pd, ok]
  rw [e, e2]
  refine ⟨Nat.le_trans (Nat.min_le_right _ _) (by simp [PyData.depth, PyData.depthAll]), ?_⟩
  have z : PyData.eqv (.tuple ds) (.tuple [.str "late"]) = (decide (s = "late") && decide (r = [])) := by
    simp only [D.pds] at e
    split at e
    · rename_i a b h1 h2
      cases e
      have h3 : (D.str s).pd = some (.str s) := by
        simp only [okNs, okN, Bool.and_eq_true] at h
        simp [D.pd, h.1]
      rw [h3] at h1
      cases h1
      simp only [PyData.eqv, PyData.eqvAll, eqv_strT, eqvAll_nil]
      have : (b = []) ↔ (r = []) := by
        cases r with
        | nil => cases h2; simp
        | cons x r =>
          simp only [D.pds] at h2
          split at h2
          · cases h2; simp
          · cases h2
      by_cases z : s = "late"
      · subst z; simp [this]
      · simp [this, z]
    · cases e
  rw [z]; exact q
theorem c_lenZ (n : Nat) : decide (((n + 1 : Nat) : Int) = 0) = false := decide_eq_false (by omega)
theorem ans_no {x : D} (h : ∀ s r, x ≠ .tup (.str s :: r)) : isAns x = false := by
  unfold isAns
  split
  · rename_i s; exact (h s [] rfl).elim
  · rename_i s y; exact (h s [y] rfl).elim
  · rfl
theorem s_answer {x : D} (hx : Sm1 x) (q : Q (.d (.bl (isAns x))) hp) : CD (k + 2) "is_answer" [x] hp Q E := by
  refine call_intro (F := t_is_answer) rfl rfl ?_
  show wss (CD (k + 1)) cn t_is_answer.body [some (.d x)] hp _
  unfold t_is_answer
  dsimp only
  have hok := hx.ok
  cases x with
  | tup l =>
    cases l with
    | nil =>
      expose_names
      refine if_D (fun _ => ?_) (fun c => (c rfl).elim)
      expose_names
      exact q
    | cons a r =>
      have ha := hx.at (x := a) (by simp)
      refine w_cons ?_
      bv_omega
      refine if_D (fun c => absurd c (by simp only [List.length_cons]; omega)) (fun _ => ?_)
      bv_omega
      refine x_tup at0 ?_
      refine isi_str ha.pl ?_
      cases a with
      | str s =>
        bv_omega
        refine w_cons ?_
        bv_omega
        refine c_late hok ?_
        refine t_bl ?_
        cases r with
        | nil =>
          have e : isAns (.tup [.str s]) = decide (s = "late") := rfl
          rw [e] at q
          by_cases z : s = "late"
          · rw [decide_eq_true z] at q ⊢
            expose_names
            exact q
          · rw [decide_eq_false z] at q ⊢
            expose_names
            exact q
        | cons y r2 =>
          have hy := hx.at (x := y) (by simp)
          rw [show decide (y :: r2 = []) = false from rfl, Bool.and_false]
          expose_names
          cases r2 with
          | nil =>
            have e : isAns (.tup [.str s, y]) = (decide (s = "done") && isNum y) := rfl
            rw [e] at q
            refine if_D (fun _ => ?_) (fun c => (c rfl).elim)
            expose_names
            by_cases z : s = "done"
            · rw [decide_eq_true z] at q ⊢
              expose_names
              refine s_isnum hy.pl ?_
              exact q
            · rw [decide_eq_false z] at q ⊢
              expose_names
              exact q
          | cons y2 r3 =>
            have e : isAns (.tup (.str s :: y :: y2 :: r3)) = false := rfl
            rw [e] at q
            refine if_D (fun c => absurd c (by simp only [List.length_cons]; omega)) (fun _ => ?_)
            exact q
      | _ =>
        rw [ans_no (fun s r z => by cases z)] at q
        expose_names
        exact q
  | ref _ => cases hok
  | fn _ => cases hok
  | _ =>
    rw [ans_no (fun s r z => by cases z)] at q
    expose_names
    exact q
theorem areN3 {x : D} (h : areN x 3 = true) : ∃ a b c : Int, x = .tup [.int a, .int b, .int c] ∧ 0 ≤ a ∧ 0 ≤ b ∧ 0 ≤ c := by
  cases x with
  | tup l =>
    have h' : (decide ((l.length : Int) = 3) && l.all isNum) = true := h
    simp only [Bool.and_eq_true, decide_eq_true_eq] at h'
    obtain ⟨h1, h2⟩ := h'
    match l, h1, h2 with
    | [a, b, c], _, h2 =>
      simp only [List.all_cons, List.all_nil, Bool.and_true, Bool.and_eq_true] at h2
      cases a <;> first | (cases h2.1; done) | skip
      cases b <;> first | (cases h2.2.1; done) | skip
      cases c <;> first | (cases h2.2.2; done) | skip
      exact ⟨_, _, _, rfl, of_decide_eq_true h2.1, of_decide_eq_true h2.2.1, of_decide_eq_true h2.2.2⟩
    | [], h1, _ => simp at h1
    | [a], h1, _ => simp at h1
    | [a, b], h1, _ => simp at h1
    | a :: b :: c :: d :: l, h1, _ => simp at h1; omega
  | _ => cases h
def posI : D → Bool
  | .int n => decide (0 < n)
  | _ => false
def six (c : D) : List D → Bool
  | [d, e, f] => isWd c && (areN (.tup [d, e, f]) 3 && posI d)
  | _ => false
def one (c : D) : List D → Bool
  | [] => isAns c
  | _ => false
/-- what stands behind the KEY of a LETTER -/
def restL (s : Str) (c : D) (r : List D) : Bool := if s = "tell" then one c r else decide (s = "ask") && six c r
theorem six_no {c : D} {r : List D} (h : r.length ≠ 3) : six c r = false := by
  unfold six
  split
  · simp at h
  · rfl
def isLet : D → Bool
  | .tup (.str s :: b :: c :: r) => areN b 3 && restL s c r
  | _ => false
theorem s_letter {x : D} (hx : Sm1 x) (q : Q (.d (.bl (isLet x))) hp) : CD (k + 3) "is_letter" [x] hp Q E := by
  refine call_intro (F := t_is_letter) rfl rfl ?_
  show wss (CD (k + 2)) cn t_is_letter.body [some (.d x)] hp _
  unfold t_is_letter
  dsimp only
  have hok := hx.ok
  cases x with
  | tup l =>
    rcases l with _ | ⟨a, _ | ⟨b, _ | ⟨c, r⟩⟩⟩
    · expose_names
      refine if_D (fun _ => ?_) (fun z => absurd (by decide) z)
      expose_names
      exact q
    · expose_names
      refine if_D (fun _ => ?_) (fun z => (z (by simp)).elim)
      expose_names
      have e : isLet (.tup [a]) = false := by cases a <;> rfl
      rw [e] at q
      exact q
    · expose_names
      refine if_D (fun _ => ?_) (fun z => (z (by simp)).elim)
      expose_names
      have e : isLet (.tup [a, b]) = false := by cases a <;> rfl
      rw [e] at q
      exact q
    · have ha := hx.at (x := a) (by simp)
      have hb := hx.at (x := b) (by simp)
      have hc := hx.at (x := c) (by simp)
      refine w_cons ?_
      bv_omega
      refine if_D (fun z => absurd z (by simp only [List.length_cons]; omega)) (fun _ => ?_)
      bv_omega
      refine x_tup at0 ?_
      refine isi_str ha.pl ?_
      cases a with
      | str s =>
        have el : isLet (.tup (.str s :: b :: c :: r)) = (areN b 3 && restL s c r) := rfl
        rw [el] at q
        bv_omega
        refine x_tup at1 ?_
        bv_omega
        refine s_arenum (k := k) hb.pl hb.len ?_
        cases eb : areN b 3 with
        | false =>
          rw [eb] at q
          expose_names
          exact q
        | true =>
          rw [eb, Bool.true_and] at q
          bv_omega
          refine w_cons ?_
          bv_omega
          refine x_tup at0 ?_
          bv_omega
          refine if_D (fun z => ?_) (fun z => ?_)
          · subst z
            bv_omega
            refine if_D (fun z2 => ?_) (fun z2 => ?_)
            · have : r = [] := by simp only [List.length_cons] at z2; exact List.length_eq_zero_iff.mp (by omega)
              subst this
              bv_omega
              refine s_answer (k := k) hc ?_
              exact q
            · have e : restL "tell" c r = false := by
                unfold restL
                rw [if_pos rfl]
                cases r with
                | nil => simp at z2
                | cons _ _ => rfl
              rw [e] at q
              exact q
          · have e0 : restL s c r = (decide (s = "ask") && six c r) := if_neg z
            rw [e0] at q
            bv_omega
            refine w_cons ?_
            bv_omega
            refine x_tup at0 ?_
            bv_omega
            refine if_N (fun z3 => ?_) (fun z3 => ?_)
            · rw [decide_eq_false z3] at q
              expose_names
              exact q
            · rw [decide_eq_true z3, Bool.true_and] at q
              bv_omega
              refine if_N (fun z4 => ?_) (fun z4 => ?_)
              · rw [six_no (fun z => z4 (by simp only [List.length_cons]; omega))] at q
                expose_names
                exact q
              · obtain ⟨d, f, g, rfl⟩ : ∃ d e f, r = [d, e, f] := by
                  match r, z4 with
                  | [d, e, f], _ => exact ⟨d, e, f, rfl⟩
                  | [], h => simp at h
                  | [_], h => simp at h
                  | [_, _], h => simp at h
                  | _ :: _ :: _ :: _ :: _, h => simp at h; omega
                have hd := hx.sub (m := [d, f, g]) ⟨3, rfl⟩
                bv_omega
                refine s_isword (k := k + 1) hc ?_
                have q2 : Q (.d (.bl (isWd c && (areN (.tup [d, f, g]) 3 && posI d)))) hp := q
                cases ew : isWd c with
                | false =>
                  rw [ew] at q2
                  expose_names
                  exact q2
                | true =>
                  rw [ew, Bool.true_and] at q2
                  bv_omega
                  refine w_cons ?_
                  bv_omega
                  have ec : cut [D.str s, b, c, d, f, g] (some 3) none = [d, f, g] := rfl
                  rw [ec]
                  refine s_arenum (k := k) hd.pl hd.len ?_
                  cases en : areN (.tup [d, f, g]) 3 with
                  | false =>
                    rw [en] at q2
                    expose_names
                    exact q2
                  | true =>
                    rw [en, Bool.true_and] at q2
                    obtain ⟨i1, i2, i3, ei, _⟩ := areN3 en
                    cases ei
                    expose_names
                    exact q2
      | _ =>
        expose_names
        exact q
  | ref _ => cases hok
  | fn _ => cases hok
  | _ =>
    expose_names
    exact q
end
end K12

set_option maxHeartbeats 0
--mac3
namespace K12
open PySem PySem.Spec PyProof.Rows L2 Mi
section
variable {k : Nat} {hp : HpD} {Q : SK} {E : EK}
/-! ### STEPS -/
def isLane : D → Bool
  | .int n => decide (0 ≤ n) && decide (n < 2)
  | _ => false
def headLane : List D → Bool
  | y :: _ => isLane y
  | [] => false
/-- what stands behind a STEP's word -/
def restS (s : Str) (r : List D) : Bool :=
  if s = "go" then areN (.tup r) 1 else if s = "get" ∨ s = "lose" ∨ s = "double" then areN (.tup r) 2 && headLane r
  else if s = "tick" ∨ s = "fall" then decide (r = []) else if s = "tear" then decide ((r.length : Int) = 1) && headLane r else false
def isStp : D → Bool
  | .tup (.str s :: r) => restS s r
  | _ => false
abbrev tab : List (Str × Str) := [("go", "is_going"), ("get", "is_handling"), ("lose", "is_handling"), ("double", "is_handling"), ("tick", "is_bare"), ("tear", "is_tearing"), ("fall", "is_bare")]
theorem step_words (s : Str) : s ∈ (["go", "get", "lose", "double", "tick", "tear", "fall"] : List Str) ∨ (tab.lookup s = none ∧ ∀ r, restS s r = false) := by
  by_cases h : s ∈ (["go", "get", "lose", "double", "tick", "tear", "fall"] : List Str)
  · exact .inl h
  · refine .inr ?_
    simp only [List.mem_cons, List.not_mem_nil, or_false, not_or] at h
    obtain ⟨h1, h2, h3, h4, h5, h6, h7⟩ := h
    refine ⟨?_, fun r => ?_⟩
    · have b : ∀ {t : Str}, ¬ s = t → (s == t) = false := fun h => by simpa using h
      simp only [tab, List.lookup_cons, b h1, b h2, b h3, b h4, b h5, b h6, b h7, List.lookup_nil]
    · unfold restS
      rw [if_neg h1, if_neg (by simp [h2, h3, h4]), if_neg (by simp [h5, h7]), if_neg h6]
theorem s_lane {x : D} (hx : plD x = true) (q : Q (.d (.bl (isLane x))) hp) : CD (k + 2) "is_lane" [x] hp Q E := by
  refine call_intro (F := t_is_lane) rfl rfl ?_
  show wss (CD (k + 1)) cn t_is_lane.body [some (.d x)] hp _
  unfold t_is_lane
  dsimp only
  expose_names
  refine s_isnum hx ?_
  expose_names
  cases x with
  | int n =>
    by_cases h : 0 ≤ n
    · have e : isLane (.int n) = decide (n < 2) := by show (decide (0 ≤ n) && decide (n < 2)) = _; rw [decide_eq_true h, Bool.true_and]
      rw [e] at q
      rw [if_pos (show isNum (.int n) = true from decide_eq_true h)]
      expose_names
      exact q
    · have e : isLane (.int n) = false := by show (decide (0 ≤ n) && decide (n < 2)) = _; rw [decide_eq_false h, Bool.false_and]
      rw [e] at q
      rw [if_neg (show ¬ isNum (.int n) = true from by show ¬ decide (0 ≤ n) = true; rw [decide_eq_false h]; decide)]
      exact q
  | ref _ => cases hx
  | fn _ => cases hx
  | _ => exact q
theorem s_going {r : List D} (hx : Sm1 (.tup r)) (q : Q (.d (.bl (areN (.tup r) 1))) hp) : CD (k + 3) "is_going" [.tup r] hp Q E := by
  refine call_intro (F := t_is_going) rfl rfl ?_
  show wss (CD (k + 2)) cn t_is_going.body [some (.d (.tup r))] hp _
  unfold t_is_going
  dsimp only
  expose_names
  refine s_arenum (k := k) hx.pl hx.len ?_
  exact q
theorem s_handling {r : List D} (hx : Sm1 (.tup r)) (q : Q (.d (.bl (areN (.tup r) 2 && headLane r))) hp) : CD (k + 3) "is_handling" [.tup r] hp Q E := by
  refine call_intro (F := t_is_handling) rfl rfl ?_
  show wss (CD (k + 2)) cn t_is_handling.body [some (.d (.tup r))] hp _
  unfold t_is_handling
  dsimp only
  expose_names
  refine s_arenum (k := k) hx.pl hx.len ?_
  cases e : areN (.tup r) 2 with
  | false =>
    rw [e] at q
    expose_names
    exact q
  | true =>
    rw [e, Bool.true_and] at q
    obtain ⟨a, b, rfl⟩ : ∃ a b, r = [a, b] := by
      have e2 : (decide ((r.length : Int) = 2) && r.all isNum) = true := e
      have e3 := of_decide_eq_true (Bool.and_eq_true_iff.mp e2).1
      match r, e3 with
      | [a, b], _ => exact ⟨a, b, rfl⟩
      | [], h => simp at h
      | [_], h => simp at h
      | _ :: _ :: _ :: _, h => simp only [List.length_cons] at h; omega
    expose_names
    refine s_lane (k := k) (hx.at (by simp)).pl ?_
    exact q
theorem s_tearing {r : List D} (hx : Sm1 (.tup r)) (q : Q (.d (.bl (decide ((r.length : Int) = 1) && headLane r))) hp) : CD (k + 3) "is_tearing" [.tup r] hp Q E := by
  refine call_intro (F := t_is_tearing) rfl rfl ?_
  show wss (CD (k + 2)) cn t_is_tearing.body [some (.d (.tup r))] hp _
  unfold t_is_tearing
  dsimp only
  expose_names
  refine if_D (fun z => ?_) (fun z => ?_)
  · rw [decide_eq_true z, Bool.true_and] at q
    obtain ⟨a, rfl⟩ : ∃ a, r = [a] := by
      match r, z with
      | [a], _ => exact ⟨a, rfl⟩
      | [], h => simp at h
      | _ :: _ :: _, h => simp only [List.length_cons] at h; omega
    expose_names
    refine s_lane (k := k) (hx.at (by simp)).pl ?_
    exact q
  · rw [decide_eq_false z, Bool.false_and] at q
    expose_names
    exact q
theorem s_bare {r : List D} (hx : Sm1 (.tup r)) (q : Q (.d (.bl (decide (r = [])))) hp) : CD (k + 1) "is_bare" [.tup r] hp Q E := by
  refine call_intro (F := t_is_bare) rfl rfl ?_
  show wss (CD k) cn t_is_bare.body [some (.d (.tup r))] hp _
  unfold t_is_bare
  dsimp only
  obtain ⟨ds, eds, _⟩ := shows_ok (by decide) (show okNs 720 r = true from hx.ok)
  expose_names
  refine c_eqNil eds ?_
  exact q
theorem cut1 {a : D} {r : List D} : cut (a :: r) (some 1) none = r := cut_fromN (a :: r) 1
theorem s_step {x : D} (hx : Sm1 x) (q : Q (.d (.bl (isStp x))) hp) : CD (k + 4) "is_step" [x] hp Q E := by
  refine call_intro (F := t_is_step) rfl rfl ?_
  show wss (CD (k + 3)) cn t_is_step.body [some (.d x), none] hp _
  unfold t_is_step
  dsimp only
  have hok := hx.ok
  cases x with
  | tup l =>
    cases l with
    | nil =>
      expose_names
      refine if_D (fun _ => ?_) (fun c => (c rfl).elim)
      expose_names
      exact q
    | cons a r =>
      have ha := hx.at (x := a) (by simp)
      have hr := hx.sub (m := r) ⟨1, rfl⟩
      refine w_cons ?_
      bv_omega
      refine if_D (fun c => absurd c (by simp only [List.length_cons]; omega)) (fun _ => ?_)
      bv_omega
      refine x_tup at0 ?_
      refine isi_str ha.pl ?_
      cases a with
      | str s =>
        have e0 : isStp (.tup (.str s :: r)) = restS s r := rfl
        rw [e0] at q
        bv_omega
        refine x_tup at0 ?_
        bv_omega
        rcases step_words s with h | ⟨h1, h2⟩
        · have key : ∀ f, tab.lookup s = some f → (∀ {Q : SK} {hp : HpD}, Q (.d (.bl (restS s r))) hp → CD (k + 3) f [.tup r] hp Q E) → f ∈ (["is_bare", "is_going", "is_handling", "is_tearing"] : List Str) → tinB true tab s = false ∧ wss (CD (k + 3)) cn (t_is_step.body.drop 1) [some (.d (.tup (.str s :: r))), none] hp ⟨fun _ hp => Q (.d .non) hp, Q, noNx, noNx, fun c fs _ hp => E c fs hp⟩ := fun f hl hf hm => by
            refine ⟨by unfold tinB; rw [hl]; rfl, ?_⟩
            unfold t_is_step
            dsimp only [List.drop]
            refine w_cons ?_
            bv_omega
            refine x_tup at0 ?_
            bv_omega
            refine onSome_iff.mpr ⟨f, hl, ?_⟩
            bv_omega
            refine w_cons ?_
            bv_omega
            refine r_callv rfl hm ?_
            bv_omega
            rw [cut1]
            exact hf q
          have fin : (∃ f, tab.lookup s = some f ∧ (∀ {Q : SK} {hp : HpD}, Q (.d (.bl (restS s r))) hp → CD (k + 3) f [.tup r] hp Q E) ∧ f ∈ (["is_bare", "is_going", "is_handling", "is_tearing"] : List Str)) := by
            simp only [List.mem_cons, List.not_mem_nil, or_false] at h
            rcases h with rfl | rfl | rfl | rfl | rfl | rfl | rfl
            · exact ⟨"is_going", by decide +kernel, fun q => s_going hr q, by decide +kernel⟩
            · exact ⟨"is_handling", by decide +kernel, fun q => s_handling hr q, by decide +kernel⟩
            · exact ⟨"is_handling", by decide +kernel, fun q => s_handling hr q, by decide +kernel⟩
            · exact ⟨"is_handling", by decide +kernel, fun q => s_handling hr q, by decide +kernel⟩
            · exact ⟨"is_bare", by decide +kernel, fun q => s_bare (k := k + 2) hr q, by decide +kernel⟩
            · exact ⟨"is_tearing", by decide +kernel, fun q => s_tearing hr q, by decide +kernel⟩
            · exact ⟨"is_bare", by decide +kernel, fun q => s_bare (k := k + 2) hr q, by decide +kernel⟩
          obtain ⟨f, f1, f2, f3⟩ := fin
          obtain ⟨g1, g2⟩ := key f f1 f2 f3
          rw [g1]
          bv_omega
          exact g2
        · have g1 : tinB true tab s = true := by unfold tinB; rw [h1]; rfl
          rw [g1]
          rw [h2] at q
          expose_names
          exact q
      | ref _ => cases ha.ok
      | fn _ => cases ha.ok
      | _ =>
        expose_names
        exact q
  | ref _ => cases hok
  | fn _ => cases hok
  | _ =>
    expose_names
    exact q
end
end K12

set_option maxHeartbeats 0
--mac3
namespace K12
open PySem PySem.Spec PyProof.Rows L2 Mi
open PySem.Builtin PySem.Builtin.Str
theorem reprChar_cases (q c : Nat) : reprChar q c = [c] ∨ 92 ∈ reprChar q c := by
  unfold reprChar
  dsimp only
  split
  · exact .inr (by simp)
  split
  · exact .inr (by simp)
  split
  · exact .inr (by simp)
  split
  · exact .inr (by simp)
  split
  · exact .inl rfl
  split
  · exact .inr (by simp)
  split
  · exact .inr (by simp)
  · exact .inr (by simp)
theorem foldl_repr (q : Nat) : ∀ (l : List Nat) (acc : Array Nat), (l.foldl (fun out c => out ++ (reprChar q c).toArray) acc).toList = acc.toList ++ l.flatMap (reprChar q)
  | [], acc => by simp
  | c :: r, acc => by
    rw [List.foldl_cons, foldl_repr q r]
    simp
theorem reprText_list (s : Str) : (reprText s).cps.toList = reprQuote s :: (s.cps.toList.flatMap (reprChar (reprQuote s))) ++ [reprQuote s] := by
  unfold reprText
  rw [Array.toList_push, ← Array.foldl_toList, foldl_repr]
  rfl
theorem flat_plain {q : Nat} : ∀ {l : List Nat}, 92 ∉ l.flatMap (reprChar q) → l.flatMap (reprChar q) = l
  | [], _ => rfl
  | c :: r, h => by
    rw [List.flatMap_cons] at h ⊢
    rw [List.mem_append, not_or] at h
    rcases reprChar_cases q c with e | e
    · rw [e, flat_plain h.2]; rfl
    · exact (h.1 e).elim
theorem repr_is_late {s : Str} (h : (reprText s).cps.toList = [39, 108, 97, 116, 101, 39]) : s = "late" := by
  rw [reprText_list] at h
  have h1 : reprQuote s = 39 := by
    have := congrArg (fun l => l.head?) h
    simpa using this
  rw [h1] at h
  have h' : (39 :: s.cps.toList.flatMap (reprChar 39)) ++ [39] = [39, 108, 97, 116, 101] ++ [39] := h
  have h2 : s.cps.toList.flatMap (reprChar 39) = [108, 97, 116, 101] := (List.cons.inj (List.append_cancel_right h')).2
  have h3 := flat_plain (q := 39) (l := s.cps.toList) (by rw [h2]; decide)
  rw [h2] at h3
  have e : s.cps = #[108, 97, 116, 101] := by
    rw [← Array.toList_inj, ← h3]
  cases s with
  | mk c =>
    have e : c = #[108, 97, 116, 101] := e
    rw [e]
    decide +kernel
theorem late_text : (("('late',)" : Str)).cps.toList = [40, 39, 108, 97, 116, 101, 39, 44, 41] := by decide +kernel
theorem shown_late {s : Str} {r : List PyData} (h : (PyData.tuple (.str s :: r)).shown = "('late',)") : s = "late" ∧ r = [] := by
  have h1 := congrArg (fun z : Str => z.cps.toList) h
  simp only [late_text] at h1
  rw [PyData.shown_tuple] at h1
  cases r with
  | nil =>
    refine ⟨repr_is_late ?_, rfl⟩
    rw [PyData.shownAll_cons, PyData.shownAll_nil, join_one, PyData.shown_str] at h1
    simp only [cps_toList_append, List.length_singleton, BEq.rfl, if_true] at h1
    rw [show ((("(" : String) : Str)).cps.toList = [40] from by decide, show (((",)" : String) : Str)).cps.toList = [44, 41] from by decide] at h1
    have h' : ([40] ++ (reprText s).cps.toList) ++ [44, 41] = ([40] ++ [39, 108, 97, 116, 101, 39]) ++ [44, 41] := h1
    exact List.append_cancel_left (List.append_cancel_right h')
  | cons y r =>
    have m : 32 ∈ (Str.join ", " (PyData.shownAll (.str s :: y :: r))).cps.toList := by
      rw [mem_join]
      exact .inr ⟨by rw [PyData.shownAll_length]; simp, by decide⟩
    have m2 : 32 ∈ ([40, 39, 108, 97, 116, 101, 39, 44, 41] : List Nat) := by
      rw [← h1]
      simp only [cps_toList_append, List.mem_append]
      exact .inl (.inr m)
    exact absurd m2 (by decide)
section
variable {k : Nat} {hp : HpD} {Q : SK} {E : EK} {K : Bool → Prop}
theorem c_lateR {s : Str} {r : List D} (h : okNs 720 (.str s :: r) = true) (q : K (decide (s = "late") && decide (r = []))) : opCmp .eq (.d (.str (reprD (.tup (.str s :: r))))) (.d (.str "('late',)")) hp K := by
  refine c_eqS ?_
  obtain ⟨ds, e, _⟩ := shows_ok (by decide) h
  have e1 : (D.tup (.str s :: r)).pd = some (.tuple ds) := by
    show (D.pds (.str s :: r)).map PyData.tuple = _
    rw [e]; rfl
  have e2 : reprD (.tup (.str s :: r)) = (PyData.tuple ds).shown := by unfold reprD; rw [e1]
  rw [e2]
  simp only [D.pds] at e
  split at e
  · rename_i a b h1 h2
    cases e
    have h3 : (D.str s).pd = some (.str s) := by
      simp only [okNs, okN, Bool.and_eq_true] at h
      simp [D.pd, h.1]
    rw [h3] at h1
    cases h1
    have hb : (b = []) ↔ (r = []) := by
      cases r with
      | nil => cases h2; simp
      | cons x r =>
        simp only [D.pds] at h2
        split at h2
        · cases h2; simp
        · cases h2
    by_cases z : s = "late" ∧ r = []
    · obtain ⟨rfl, rfl⟩ := z
      obtain rfl := hb.mpr rfl
      rw [decide_eq_true (show (PyData.tuple [.str "late"]).shown = "('late',)" from by decide +kernel)]
      exact q
    · rw [decide_eq_false (fun h => z ⟨(shown_late h).1, hb.mp (shown_late h).2⟩)]
      have : (decide (s = "late") && decide (r = [])) = false := by
        by_cases z1 : s = "late"
        · rw [decide_eq_false (fun z2 => z ⟨z1, z2⟩), Bool.and_false]
        · rw [decide_eq_false z1, Bool.false_and]
      rw [this] at q
      exact q
  · cases e
end
end K12

set_option maxHeartbeats 0
--mac3
namespace K12
open PySem PySem.Spec PyProof.Rows L2 Mi
section
variable {k : Nat} {hp : HpD} {Q : SK} {E : EK} {K : Bool → Prop}
theorem ans_form (s : Str) (r : List D) : isAns (.tup (.str s :: r)) = ((decide (s = "late") && decide (r = [])) || (decide (s = "done") && areN (.tup r) 1)) := by
  match r with
  | [] =>
    show decide (s = "late") = _
    rw [show areN (.tup []) 1 = false from by decide]
    simp
  | [y] =>
    show (decide (s = "done") && isNum y) = _
    have e : areN (.tup [y]) 1 = isNum y := by
      show (decide ((([y] : List D).length : Int) = 1) && [y].all isNum) = _
      simp
    rw [e]; simp
  | y :: y2 :: r3 =>
    show false = _
    have e : areN (.tup (y :: y2 :: r3)) 1 = false := by
      show (decide (((y :: y2 :: r3).length : Int) = 1) && (y :: y2 :: r3).all isNum) = _
      rw [decide_eq_false (by simp only [List.length_cons]; omega)]; rfl
    rw [e]; simp
theorem late_eq {s : Str} {r : List D} (h : okNs 720 (.str s :: r) = true) : decide (reprD (.tup (.str s :: r)) = "('late',)") = (decide (s = "late") && decide (r = [])) :=
  c_lateR (hp := fun _ => none) (K := fun b => b = (decide (s = "late") && decide (r = []))) h rfl
theorem s_answered {x : D} (hx : Sm1 x) (q : Q (.d (.bl (isAns x))) hp) : CD (k + 3) "_law_answered" [x] hp Q E := by
  refine call_intro (F := t_law_answered) rfl rfl ?_
  show wss (CD (k + 2)) cn t_law_answered.body [some (.d x)] hp _
  unfold t_law_answered
  dsimp only
  have hok := hx.ok
  have ht := hx.tl
  have hd := hx.dp
  have hz := sizeLine_eq
  cases x with
  | tup l =>
    cases l with
    | nil =>
      expose_names
      refine c_eqNil (ds := []) rfl ?_
      rw [decide_eq_true rfl]
      expose_names
      exact q
    | cons a r =>
      have ha := hx.at (x := a) (by simp)
      have hr := hx.sub (m := r) ⟨1, rfl⟩
      obtain ⟨ds, eds, _⟩ := shows_ok (by decide) (show okNs 720 (a :: r) = true from hok)
      refine w_cons ?_
      bv_omega
      refine c_eqNil eds ?_
      rw [decide_eq_false (by simp)]
      bv_omega
      refine x_tup at0 ?_
      refine isi_str ha.pl ?_
      cases a with
      | str s =>
        rw [ans_form] at q
        bv_omega
        refine w_cons ?_
        bv_omega
        refine rp_x (n := 720) hok (by decide) (by omega) (by omega) ?_
        bv_omega
        rw [late_eq hok]
        cases e1 : (decide (s = "late") && decide (r = [])) with
        | true =>
          rw [e1] at q
          bv_omega
          exact q
        | false =>
          rw [e1, Bool.false_or] at q
          bv_omega
          refine x_tup at0 ?_
          bv_omega
          by_cases z : s = "done"
          · rw [decide_eq_true z, Bool.true_and] at q
            rw [decide_eq_true z]
            bv_omega
            rw [cut1]
            refine s_numbers (k := k) hr ?_
            exact q
          · rw [decide_eq_false z, Bool.false_and] at q
            rw [decide_eq_false z]
            bv_omega
            exact q
      | ref _ => cases ha.ok
      | fn _ => cases ha.ok
      | _ =>
        rw [ans_no (fun s r z => by cases z)] at q
        expose_names
        exact q
  | ref _ => cases hok
  | fn _ => cases hok
  | _ =>
    rw [ans_no (fun s r z => by cases z)] at q
    expose_names
    exact q
/-! STEPS, as the law looks -/
abbrev manyL : List (Str × Int) := [("go", 1), ("get", 2), ("lose", 2), ("double", 2), ("tick", 0), ("tear", 1), ("fall", 0)]
abbrev manyT : List (Key × D) := List.zipWith (fun k d => (Sum.inr k, d)) (["go", "get", "lose", "double", "tick", "tear", "fall"] : List Str) [D.int 1, .int 2, .int 2, .int 2, .int 0, .int 1, .int 0]
theorem getK_many (s : Str) : ∀ l : List (Str × Int), getK (l.map fun p => ((Sum.inr p.1 : Key), D.int p.2)) (.inr s) = (l.lookup s).map D.int
  | [] => rfl
  | p :: l => by
    have ih := getK_many s l
    unfold getK at ih ⊢
    rw [List.map_cons, List.find?_cons]
    obtain ⟨a, b⟩ := p
    simp only [List.lookup_cons]
    by_cases z : a = s
    · subst z
      simp
    · have z1 : (s == a) = false := by simpa using fun q => z (Eq.symm q)
      have z2 : decide ((Sum.inr a : Key) = .inr s) = false := decide_eq_false fun q => z (Sum.inr.inj q)
      rw [z1]
      simp only [z2]
      exact ih
theorem gt_k {a : Addr} {l : List (Key × D)} {y : SV} {i : Key} (e0 : hp a = some (.dk l)) (e1 : keyS y = some i) (h : Q (.d ((getK l i).getD .non)) hp) : opO2 .get (.d (.ref a)) y hp Q := by
  simp only [opO2, dictG, e0, e1]
  exact h
theorem c_in01 {i : Int} (h : K (decide (i = 0) || decide (i = 1))) : opCmp .inn (.d (.int i)) (.d (.tup [.int 0, .int 1])) hp K := by
  show (PyData.int i).depth ≤ 60 ∧ K (([PyData.int 0, .int 1] : List PyData).any fun b => PyData.eqv b (.int i))
  refine ⟨by simp [PyData.depth], ?_⟩
  have e : (([PyData.int 0, .int 1] : List PyData).any fun b => PyData.eqv b (.int i)) = (decide (i = 0) || decide (i = 1)) := by
    simp only [List.any_cons, List.any_nil, Bool.or_false, PyData.eqv]
    congr 1
    · exact decide_eq_decide.mpr (by omega)
    · exact decide_eq_decide.mpr (by omega)
  rw [e]; exact h
theorem pds_strs : ∀ {ws : List Str}, (ws.all PyData.strOk) = true → D.pds (ws.map .str) = some (ws.map .str)
  | [], _ => rfl
  | w :: r, h => by
    obtain ⟨h1, h2⟩ := Bool.and_eq_true_iff.mp (show (PyData.strOk w && r.all PyData.strOk) = true from h)
    show (match D.pd (.str w), D.pds (r.map .str) with | some a, some b => some (a :: b) | _, _ => none) = _
    rw [pds_strs h2]
    show (match (if PyData.strOk w = true then some (PyData.str w) else none), some (r.map PyData.str) with | some a, some b => some (a :: b) | _, _ => none) = _
    rw [if_pos h1]; rfl

theorem any_strs (s : Str) : ∀ ws : List Str, ((ws.map PyData.str).any fun b => PyData.eqv b (.str s)) = decide (s ∈ ws)
  | [] => by simp
  | w :: r => by
    rw [List.map_cons, List.any_cons, any_strs s r, eqv_strT]
    by_cases e : w = s
    · simp [e]
    · have e' : ¬ s = w := fun z => e z.symm
      simp [e, e']
theorem c_inW {s : Str} {ws : List Str} (hs : PyData.strOk s = true) (hw : (ws.all PyData.strOk) = true) (h : K (decide (s ∈ ws))) : opCmp .inn (.d (.str s)) (.d (.tup (ws.map .str))) hp K := by
  show onSome (svPd hp (.d (.str s))) fun a => onSome ((some (ws.map D.str)).bind D.pds) fun bs => a.depth ≤ 60 ∧ K (bs.any fun b => PyData.eqv b a)
  rw [show svPd hp (.d (.str s)) = some (.str s) from by show (if PyData.strOk s = true then some (PyData.str s) else none) = _; rw [if_pos hs]]
  show onSome (D.pds (ws.map D.str)) _
  rw [pds_strs hw]
  refine ⟨by simp [PyData.depth], ?_⟩
  rw [any_strs]; exact h
theorem lane_01 {i : Int} (h : 0 ≤ i) : isLane (.int i) = (decide (i = 0) || decide (i = 1)) := by
  show (decide (0 ≤ i) && decide (i < 2)) = _
  rw [decide_eq_true h, Bool.true_and]
  by_cases z : i < 2
  · rw [decide_eq_true z]
    rcases (by omega : i = 0 ∨ i = 1) with e | e <;> subst e <;> decide
  · rw [decide_eq_false z, decide_eq_false (by omega : ¬ i = 0), decide_eq_false (by omega : ¬ i = 1)]; rfl
theorem areN_ints {r : List D} {n : Int} (h : areN (.tup r) n = true) : (r.length : Int) = n ∧ ∀ y ∈ r, ∃ i : Int, y = .int i ∧ 0 ≤ i := by
  have e : (decide ((r.length : Int) = n) && r.all isNum) = true := h
  obtain ⟨h1, h2⟩ := Bool.and_eq_true_iff.mp e
  refine ⟨of_decide_eq_true h1, fun y hy => ?_⟩
  have := List.all_eq_true.mp h2 y hy
  cases y with
  | int i => exact ⟨i, rfl, of_decide_eq_true this⟩
  | _ => cases this
end
end K12

set_option maxHeartbeats 0
--mac3
namespace K12
open PySem PySem.Spec PyProof.Rows L2 Mi
section
variable {k : Nat} {hp : HpD} {Q : SK} {E : EK} {K : Bool → Prop}
theorem areN_nil (r : List D) : areN (.tup r) 0 = decide (r = []) := by
  cases r with
  | nil => decide
  | cons y r =>
    show (decide (((y :: r).length : Int) = 0) && (y :: r).all isNum) = _
    rw [decide_eq_false (by simp only [List.length_cons]; omega), decide_eq_false (by simp)]; rfl
theorem areN_tear (r : List D) : (decide ((r.length : Int) = 1) && headLane r) = (areN (.tup r) 1 && headLane r) := by
  show _ = ((decide ((r.length : Int) = 1) && r.all isNum) && headLane r)
  match r with
  | [] => rfl
  | [y] =>
    have e : headLane [y] = isLane y := rfl
    rw [e]
    cases y with
    | int i =>
      show (_ && isLane (.int i)) = ((_ && (decide (0 ≤ i) && true)) && isLane (.int i))
      have e2 : isLane (.int i) = (decide (0 ≤ i) && decide (i < 2)) := rfl
      rw [e2]
      cases decide (0 ≤ i) <;> simp
    | _ => simp [isLane]
  | y :: y2 :: r3 =>
    rw [decide_eq_false (by simp only [List.length_cons]; omega)]; rfl
theorem rest_form {s : Str} {n : Int} (r : List D) (h : manyL.lookup s = some n) : restS s r = (areN (.tup r) n && (decide (s ∈ (["go", "tick", "fall"] : List Str)) || headLane r)) := by
  rcases step_words s with w | ⟨w, w2⟩
  · simp only [List.mem_cons, List.not_mem_nil, or_false] at w
    have go : ∀ (t : Str) (m : Int), manyL.lookup t = some m → s = t → n = m := fun t m e z => by
      rw [z, e] at h; exact (Option.some.inj h).symm
    rcases w with w | w | w | w | w | w | w <;> subst w
    · obtain rfl := go "go" 1 (by decide +kernel) rfl
      rw [show decide (("go" : Str) ∈ (["go", "tick", "fall"] : List Str)) = true from by decide +kernel]
      show areN (.tup r) 1 = _
      simp
    · obtain rfl := go "get" 2 (by decide +kernel) rfl
      rw [show decide (("get" : Str) ∈ (["go", "tick", "fall"] : List Str)) = false from by decide +kernel, show restS "get" r = (areN (.tup r) 2 && headLane r) from by unfold restS; rw [if_neg (by decide +kernel), if_pos (by decide +kernel)]]
      simp
    · obtain rfl := go "lose" 2 (by decide +kernel) rfl
      rw [show decide (("lose" : Str) ∈ (["go", "tick", "fall"] : List Str)) = false from by decide +kernel, show restS "lose" r = (areN (.tup r) 2 && headLane r) from by unfold restS; rw [if_neg (by decide +kernel), if_pos (by decide +kernel)]]
      simp
    · obtain rfl := go "double" 2 (by decide +kernel) rfl
      rw [show decide (("double" : Str) ∈ (["go", "tick", "fall"] : List Str)) = false from by decide +kernel, show restS "double" r = (areN (.tup r) 2 && headLane r) from by unfold restS; rw [if_neg (by decide +kernel), if_pos (by decide +kernel)]]
      simp
    · obtain rfl := go "tick" 0 (by decide +kernel) rfl
      rw [show decide (("tick" : Str) ∈ (["go", "tick", "fall"] : List Str)) = true from by decide +kernel, show restS "tick" r = decide (r = []) from by unfold restS; rw [if_neg (by decide +kernel), if_neg (by decide +kernel), if_pos (by decide +kernel)], areN_nil]
      simp
    · obtain rfl := go "tear" 1 (by decide +kernel) rfl
      rw [show decide (("tear" : Str) ∈ (["go", "tick", "fall"] : List Str)) = false from by decide +kernel, show restS "tear" r = (decide ((r.length : Int) = 1) && headLane r) from by unfold restS; rw [if_neg (by decide +kernel), if_neg (by decide +kernel), if_neg (by decide +kernel), if_pos (by decide +kernel)], areN_tear]
      simp
    · obtain rfl := go "fall" 0 (by decide +kernel) rfl
      rw [show decide (("fall" : Str) ∈ (["go", "tick", "fall"] : List Str)) = true from by decide +kernel, show restS "fall" r = decide (r = []) from by unfold restS; rw [if_neg (by decide +kernel), if_neg (by decide +kernel), if_pos (by decide +kernel)], areN_nil]
      simp
  · exfalso
    have b : ∀ l : List Str, (∀ t ∈ l, ∃ f, tab.lookup t = some f) → ∀ t ∈ l, ¬ s = t := fun l hl t ht z => by
      obtain ⟨f, e⟩ := hl t ht
      rw [← z, w] at e; cases e
    have b2 := b ["go", "get", "lose", "double", "tick", "tear", "fall"] (by
      intro t ht
      simp only [List.mem_cons, List.not_mem_nil, or_false] at ht
      rcases ht with rfl | rfl | rfl | rfl | rfl | rfl | rfl
      · exact ⟨"is_going", by decide +kernel⟩
      · exact ⟨"is_handling", by decide +kernel⟩
      · exact ⟨"is_handling", by decide +kernel⟩
      · exact ⟨"is_handling", by decide +kernel⟩
      · exact ⟨"is_bare", by decide +kernel⟩
      · exact ⟨"is_tearing", by decide +kernel⟩
      · exact ⟨"is_bare", by decide +kernel⟩)
    have c : ∀ {t : Str}, ¬ s = t → (s == t) = false := fun h => by simpa using h
    simp only [manyL, List.lookup_cons, c (b2 "go" (by simp)), c (b2 "get" (by simp)), c (b2 "lose" (by simp)), c (b2 "double" (by simp)), c (b2 "tick" (by simp)), c (b2 "tear" (by simp)), c (b2 "fall" (by simp)), List.lookup_nil] at h
    cases h
theorem rest_no {s : Str} (r : List D) (h : manyL.lookup s = none) : restS s r = false := by
  rcases step_words s with w | ⟨_, w⟩
  · simp only [List.mem_cons, List.not_mem_nil, or_false] at w
    have go : ∀ (t : Str) (m : Int), manyL.lookup t = some m → s = t → False := fun t m e z => by
      rw [z, e] at h; cases h
    rcases w with w | w | w | w | w | w | w
    · exact (go "go" 1 (by decide +kernel) w).elim
    · exact (go "get" 2 (by decide +kernel) w).elim
    · exact (go "lose" 2 (by decide +kernel) w).elim
    · exact (go "double" 2 (by decide +kernel) w).elim
    · exact (go "tick" 0 (by decide +kernel) w).elim
    · exact (go "tear" 1 (by decide +kernel) w).elim
    · exact (go "fall" 0 (by decide +kernel) w).elim
  · exact w r
theorem many_pos {s : Str} {n : Int} (h : manyL.lookup s = some n) (h2 : decide (s ∈ (["go", "tick", "fall"] : List Str)) = false) : 1 ≤ n := by
  simp only [manyL, List.lookup_cons] at h
  split at h
  · cases h; decide
  split at h
  · cases h; decide
  split at h
  · cases h; decide
  split at h
  · cases h; decide
  split at h
  · rename_i z
    have z : s = "tick" := by simpa using z
    subst z
    exact absurd h2 (by decide +kernel)
  split at h
  · cases h; decide
  split at h
  · rename_i z
    have z : s = "fall" := by simpa using z
    subst z
    exact absurd h2 (by decide +kernel)
  · cases h
theorem c_isNI {n : Int} (h : K false) : opCmp .isn (.d (.int n)) (.d .non) hp K := h
theorem s_stepped {x : D} (hx : Sm1 x) (q0 : Q (.d (.bl (isStp x))) hp) (q1 : ∀ p L, hp p = none → Q (.d (.bl (isStp x))) (updD hp p L)) : CD (k + 3) "_law_stepped" [x] hp Q E := by
  refine call_intro (F := t_law_stepped) rfl rfl ?_
  show wss (CD (k + 2)) cn t_law_stepped.body [some (.d x), none] hp _
  unfold t_law_stepped
  dsimp only
  have hok := hx.ok
  cases x with
  | tup l =>
    cases l with
    | nil =>
      expose_names
      refine c_eqNil (ds := []) rfl ?_
      rw [decide_eq_true rfl]
      expose_names
      exact q0
    | cons a r =>
      have ha := hx.at (x := a) (by simp)
      have hr := hx.sub (m := r) ⟨1, rfl⟩
      obtain ⟨ds, eds, _⟩ := shows_ok (by decide) (show okNs 720 (a :: r) = true from hok)
      refine w_cons ?_
      bv_omega
      refine c_eqNil eds ?_
      rw [decide_eq_false (by simp)]
      bv_omega
      refine x_tup at0 ?_
      refine isi_str ha.pl ?_
      cases a with
      | str s =>
        have hs : PyData.strOk s = true := ha.ok
        have e0 : isStp (.tup (.str s :: r)) = restS s r := rfl
        rw [e0] at q0 q1
        bv_omega
        refine w_cons ?_
        bv_omega
        intro p hpp
        have q := fun L => q1 p L hpp
        refine isd_k updD_same ?_
        bv_omega
        refine x_tup at0 ?_
        bv_omega
        refine gt_k (l := manyT) (i := .inr s) updD_same rfl ?_
        rw [show getK manyT (.inr s) = (manyL.lookup s).map D.int from getK_many s manyL]
        bv_omega
        cases em : manyL.lookup s with
        | none =>
          rw [rest_no r em] at q
          simp only [Option.map_none, Option.getD_none]
          refine w_cons ?_
          bv_omega
          exact q _
        | some n =>
          rw [rest_form r em] at q
          simp only [Option.map_some, Option.getD_some]
          refine w_cons ?_
          bv_omega
          refine c_isNI ?_
          bv_omega
          rw [cut1]
          refine s_numbers (k := k) hr ?_
          cases en : areN (.tup r) n with
          | false =>
            rw [en] at q
            bv_omega
            exact q _
          | true =>
            rw [en, Bool.true_and] at q
            bv_omega
            refine w_cons ?_
            bv_omega
            refine x_tup at0 ?_
            bv_omega
            refine c_inW (ws := ["go", "tick", "fall"]) hs (by decide +kernel) ?_
            cases ew : decide (s ∈ (["go", "tick", "fall"] : List Str)) with
            | true =>
              rw [ew] at q
              bv_omega
              exact q _
            | false =>
              rw [ew, Bool.false_or] at q
              have n1 := many_pos em ew
              obtain ⟨l1, l2⟩ := areN_ints en
              cases r with
              | nil => simp at l1; omega
              | cons y r =>
                obtain ⟨i, rfl, i0⟩ := l2 y List.mem_cons_self
                bv_omega
                refine x_tup at1 ?_
                bv_omega
                refine c_in01 ?_
                rw [← lane_01 i0]
                exact q _
      | ref _ => cases ha.ok
      | fn _ => cases ha.ok
      | _ =>
        expose_names
        exact q0
  | ref _ => cases hok
  | fn _ => cases hok
  | _ =>
    expose_names
    exact q0
end
end K12

set_option maxHeartbeats 0
--mac3
namespace K12
open PySem PySem.Spec PyProof.Rows L2 Mi
section
variable {k : Nat} {hp : HpD} {Q : SK} {E : EK} {K : Bool → Prop}
theorem at3 {a b c d : D} {r : List D} : atI (a :: b :: c :: d :: r) 3 = some d := by
  unfold atI ixN
  rw [if_pos (by decide), if_pos (by simp only [List.length_cons]; omega)]; rfl
theorem s_lettered {x : D} (hx : Sm1 x) (q : Q (.d (.bl (isLet x))) hp) : CD (k + 4) "_law_lettered" [x] hp Q E := by
  refine call_intro (F := t_law_lettered) rfl rfl ?_
  show wss (CD (k + 3)) cn t_law_lettered.body [some (.d x)] hp _
  unfold t_law_lettered
  dsimp only
  have hok := hx.ok
  cases x with
  | tup l =>
    rcases l with _ | ⟨a, _ | ⟨b, _ | ⟨c, r⟩⟩⟩
    · expose_names
      refine if_D (fun _ => ?_) (fun z => absurd (by decide) z)
      expose_names
      exact q
    · expose_names
      refine if_D (fun _ => ?_) (fun z => (z (by simp)).elim)
      expose_names
      have e : isLet (.tup [a]) = false := by cases a <;> rfl
      rw [e] at q
      exact q
    · expose_names
      refine if_D (fun _ => ?_) (fun z => (z (by simp)).elim)
      expose_names
      have e : isLet (.tup [a, b]) = false := by cases a <;> rfl
      rw [e] at q
      exact q
    · have ha := hx.at (x := a) (by simp)
      have hb := hx.at (x := b) (by simp)
      have hc := hx.at (x := c) (by simp)
      have hr := hx.sub (m := r) ⟨3, rfl⟩
      refine w_cons ?_
      bv_omega
      refine if_D (fun z => absurd z (by simp only [List.length_cons]; omega)) (fun _ => ?_)
      bv_omega
      refine x_tup at0 ?_
      refine isi_str ha.pl ?_
      cases a with
      | str s =>
        have el : isLet (.tup (.str s :: b :: c :: r)) = (areN b 3 && restL s c r) := rfl
        rw [el] at q
        bv_omega
        refine w_cons ?_
        bv_omega
        refine x_tup at1 ?_
        bv_omega
        refine s_numbers (k := k + 1) hb ?_
        cases eb : areN b 3 with
        | false =>
          rw [eb] at q
          bv_omega
          exact q
        | true =>
          rw [eb, Bool.true_and] at q
          bv_omega
          refine w_cons ?_
          bv_omega
          refine x_tup at0 ?_
          bv_omega
          refine if_D (fun z => ?_) (fun z => ?_)
          · subst z
            bv_omega
            refine if_D (fun z2 => ?_) (fun z2 => ?_)
            · have : r = [] := by simp only [List.length_cons] at z2; exact List.length_eq_zero_iff.mp (by omega)
              subst this
              bv_omega
              refine s_answered (k := k) hc ?_
              exact q
            · have e : restL "tell" c r = false := by
                unfold restL
                rw [if_pos rfl]
                cases r with
                | nil => simp at z2
                | cons _ _ => rfl
              rw [e] at q
              bv_omega
              exact q
          · have e0 : restL s c r = (decide (s = "ask") && six c r) := if_neg z
            rw [e0] at q
            bv_omega
            refine w_cons ?_
            bv_omega
            refine x_tup at0 ?_
            bv_omega
            by_cases z3 : s = "ask"
            · rw [decide_eq_true z3, Bool.true_and] at q
              rw [decide_eq_true z3]
              bv_omega
              refine x_tup at2 ?_
              bv_omega
              refine s_worded (k := k + 2) hc ?_
              have no : ∀ {v}, isWd c = false → six c r = v → v = false := fun h e => by
                rw [← e]
                unfold six
                split
                · rw [h]; rfl
                · rfl
              cases ew : isWd c with
              | false =>
                rw [no ew rfl] at q
                bv_omega
                exact q
              | true =>
                bv_omega
                have ec : cut (D.str s :: b :: c :: r) (some 3) none = r := cut_fromN (D.str s :: b :: c :: r) 3
                rw [ec]
                refine s_numbers (k := k + 1) hr ?_
                cases en : areN (.tup r) 3 with
                | false =>
                  have e6 : six c r = false := by
                    unfold six
                    split
                    · rw [en, ew]; rfl
                    · rfl
                  rw [e6] at q
                  bv_omega
                  exact q
                | true =>
                  obtain ⟨l1, l2⟩ := areN_ints en
                  obtain ⟨d, f, g, rfl⟩ : ∃ d e f, r = [d, e, f] := by
                    match r, l1 with
                    | [d, e, f], _ => exact ⟨d, e, f, rfl⟩
                    | [], h => simp at h
                    | [_], h => simp at h
                    | [_, _], h => simp at h
                    | _ :: _ :: _ :: _ :: _, h => simp only [List.length_cons] at h; omega
                  obtain ⟨i, rfl, i0⟩ := l2 d List.mem_cons_self
                  have e6 : six c [.int i, f, g] = !(decide (i = 0)) := by
                    show (isWd c && (areN (.tup [.int i, f, g]) 3 && decide (0 < i))) = _
                    rw [ew, en]
                    by_cases z : i = 0
                    · subst z; decide
                    · rw [decide_eq_false z, decide_eq_true (by omega : 0 < i)]; rfl
                  rw [e6] at q
                  bv_omega
                  exact q
            · rw [decide_eq_false z3, Bool.false_and] at q
              rw [decide_eq_false z3]
              bv_omega
              exact q
      | ref _ => cases ha.ok
      | fn _ => cases ha.ok
      | _ =>
        expose_names
        exact q
  | ref _ => cases hok
  | fn _ => cases hok
  | _ =>
    expose_names
    exact q
end
end K12

set_option maxHeartbeats 0
--mac3
namespace K12
open PySem PySem.Spec PyProof.Rows L2 Mi
/-- of such a size -/
structure Sz (B d : Nat) (x : D) : Prop where
  ok : okN 710 x = true
  tl : tl x ≤ B
  dp : dpD x ≤ d
structure SzL (B d : Nat) (l : List D) : Prop where
  ok : okNs 710 l = true
  tl : tls l ≤ B
  dp : dpDs l ≤ d
section
variable {B C d e : Nat} {l m : List D} {x : D}
theorem Sz.le (h : Sz B d x) (h1 : B ≤ C) (h2 : d ≤ e) : Sz C e x := ⟨h.ok, Nat.le_trans h.tl h1, Nat.le_trans h.dp h2⟩
theorem SzL.le (h : SzL B d l) (h1 : B ≤ C) (h2 : d ≤ e) : SzL C e l := ⟨h.ok, Nat.le_trans h.tl h1, Nat.le_trans h.dp h2⟩
theorem SzL.nil : SzL 0 d [] := ⟨rfl, Nat.le_refl 0, Nat.zero_le _⟩
theorem SzL.cons (h : Sz B d x) (g : SzL C d l) : SzL (B + 2 + C) d (x :: l) :=
  ⟨by show (okN 710 x && okNs 710 l) = true; rw [h.ok, g.ok]; rfl, by have := h.tl; have := g.tl; show Mi.tl x + 2 + tls l ≤ _; omega, by have := h.dp; have := g.dp; show max (dpD x) (dpDs l) ≤ _; omega⟩
theorem SzL.app (h : SzL B d l) (g : SzL C d m) : SzL (B + C) d (l ++ m) :=
  ⟨okNs_app h.ok g.ok, by rw [tls_app]; have := h.tl; have := g.tl; omega, dpDs_app h.dp g.dp⟩
theorem tls_take : ∀ (l : List D) (n : Nat), tls (l.take n) ≤ tls l
  | [], n => by simp
  | x :: r, 0 => by simp [tls]
  | x :: r, n + 1 => by have := tls_take r n; simp only [List.take_succ_cons, tls]; omega
theorem tls_drop : ∀ (l : List D) (n : Nat), tls (l.drop n) ≤ tls l
  | [], n => by simp
  | x :: r, 0 => by simp
  | x :: r, n + 1 => by have := tls_drop r n; simp only [List.drop_succ_cons, tls]; omega
theorem tls_rev : ∀ l : List D, tls l.reverse = tls l
  | [] => rfl
  | x :: r => by rw [List.reverse_cons, tls_app, tls_rev r]; simp only [tls]; omega
theorem SzL.take (h : SzL B d l) (n : Nat) : SzL B d (l.take n) := ⟨okNs_take h.ok n, Nat.le_trans (tls_take l n) h.tl, dpDs_take h.dp n⟩
theorem SzL.drop (h : SzL B d l) (n : Nat) : SzL B d (l.drop n) := ⟨okNs_drop h.ok n, Nat.le_trans (tls_drop l n) h.tl, dpDs_drop h.dp n⟩
theorem SzL.rev (h : SzL B d l) : SzL B d l.reverse :=
  ⟨okNs_iff.mpr fun x hx => okNs_iff.mp h.ok x (List.mem_reverse.mp hx), by rw [tls_rev]; exact h.tl, dpDs_le.mpr fun x hx => dpDs_le.mp h.dp x (List.mem_reverse.mp hx)⟩
theorem SzL.at (h : SzL B d l) (hx : x ∈ l) : Sz B d x := ⟨okNs_iff.mp h.ok x hx, by have := tls_mem hx; have := h.tl; omega, dpDs_le.mp h.dp x hx⟩
theorem SzL.tup (h : SzL B d l) : Sz (B + 3) (d + 1) (.tup l) := ⟨h.ok, by have := h.tl; show tls l + 3 ≤ _; omega, by have := h.dp; show dpDs l + 1 ≤ _; omega⟩
theorem SzL.lst (h : SzL B d l) : Sz (B + 3) (d + 1) (.lst l) := ⟨h.ok, by have := h.tl; show tls l + 3 ≤ _; omega, by have := h.dp; show dpDs l + 1 ≤ _; omega⟩
theorem Sz.items (h : Sz (B + 3) (d + 1) (.tup l)) : SzL B d l := ⟨h.ok, by have h2 := h.tl; simp only [Mi.tl] at h2; omega, by have h2 := h.dp; simp only [dpD] at h2; omega⟩
theorem SzL.one (h : Sz B d x) : SzL (B + 2) d [x] := by
  have := SzL.cons h (SzL.nil (d := d))
  exact this
theorem SzL.len (h : SzL B d l) : 2 * l.length ≤ B := Nat.le_trans (tls_len l) h.tl
theorem sz_int {i : Int} (h : i.natAbs.log2 < 710) : Sz 720 d (.int i) := ⟨decide_eq_true h, by show i.natAbs.log2 + 3 ≤ 720; omega, Nat.zero_le _⟩
theorem sz_bent {n : Nat} {y : D} (h : Sz B d x) (hn : okN n x = true) (g : Bent n x y) (l : n < 710) : Sz (2 * B + 800) (d + 2) y :=
  ⟨okN_le (by omega) g.ok, by have := g.tl; have := h.tl; omega, by have := g.dp; have := h.dp; omega⟩
end
section
variable {k : Nat} {hp : HpD} {Q : SK} {E : EK} {K : Bool → Prop}
theorem letter_at {i : Int} (h0 : 0 ≤ i) (h1 : i < 26) : ∃ c, atI (("abcdefghijklmnopqrstuvwxyz" : Str)).cps.toList i = some c ∧ low c = true := by
  have e : (("abcdefghijklmnopqrstuvwxyz" : Str)).cps.toList = (List.range 26).map (· + 97) := by decide +kernel
  rw [e]
  refine ⟨i.toNat + 97, ?_, ?_⟩
  · unfold atI ixN
    rw [if_pos h0, List.length_map, List.length_range, if_pos (by omega)]
    show ((List.range 26).map (· + 97))[i.toNat]? = _
    rw [List.getElem?_map, List.getElem?_range (by omega)]; rfl
  · unfold low
    rw [decide_eq_true (by omega : 97 ≤ i.toNat + 97), decide_eq_true (by omega : i.toNat + 97 ≤ 122)]; rfl
theorem str_len (s t : Str) : (s ++ t).length = s.length + t.length := strLen_append s t
theorem lenL : (("abcdefghijklmnopqrstuvwxyz" : Str)).length ≤ sizeLine := by rw [sizeLine_eq]; decide +kernel
/-- a word of so many letters -/
structure Wd (n : Nat) (w : Str) : Prop where
  lo : w.cps.toList.all low = true
  pos : 1 ≤ w.length
  len : w.length ≤ n
theorem low_lt {c : Nat} (h : low c = true) : c < 0x110000 := by
  unfold low at h
  simp only [Bool.and_eq_true, decide_eq_true_eq] at h
  omega
theorem lo_ok {w : Str} (h : w.cps.toList.all low = true) : PyData.strOk w = true := by
  show w.cps.all (· < 0x110000) = true
  rw [Array.all_eq_true']
  intro c hc
  have := List.all_eq_true.mp h c (by simpa using hc)
  simpa using low_lt this
theorem Wd.ok {n : Nat} {w : Str} (h : Wd n w) : PyData.strOk w = true := lo_ok h.lo
theorem lo_app {s t : Str} (h : s.cps.toList.all low = true) (g : t.cps.toList.all low = true) : (s ++ t).cps.toList.all low = true := by
  show (s.cps ++ t.cps).toList.all low = true
  rw [Array.toList_append, List.all_append, h, g]; rfl
theorem log_lt {i : Int} {n : Nat} (h0 : 0 ≤ i) (h : i < 2 ^ n) (hn : 0 < n) : i.natAbs.log2 < n := by
  by_cases z : i.natAbs = 0
  · rw [z]; simpa using hn
  · refine (Nat.log2_lt z).mpr ?_
    have : ((i.natAbs : Nat) : Int) < 2 ^ n := by omega
    exact_mod_cast this
theorem c_eqE (h : K true) : opCmp .eq (.d (.lst [])) (.ol []) hp K := by
  have := c_nilL (ns := []) (hp := hp) (B := K) (by simpa using h)
  exact this
theorem c_notinE {w : Str} (hw : PyData.strOk w = true) (h : K true) : opCmp .notin (.d (.str w)) (.d (.lst [])) hp K := by
  show onSome (svPd hp (.d (.str w))) fun a => onSome ((some ([] : List D)).bind D.pds) fun bs => a.depth ≤ 60 ∧ K (!(bs.any fun b => PyData.eqv b a))
  rw [show svPd hp (.d (.str w)) = some (.str w) from by show (if PyData.strOk w = true then some (PyData.str w) else none) = _; rw [if_pos hw]]
  exact ⟨by simp [PyData.depth], h⟩
theorem s_word {ns : List Int} {b : Nat} {a : Addr} {o : MO} (ho : FeedL ns (b + 20) o) (hQ : ∀ w o', Wd 8 w → FeedL ns b o' → Q (.d (.str w)) (updD hp a o')) : CD (k + 2) "_law_word" [.ref a, .lst []] (updD hp a o) Q E := by
  refine call_intro (F := t_law_word) rfl rfl ?_
  have hc := call_mono pg cn (k + 1)
  show wss (CD (k + 1)) cn t_law_word.body [some (.d (.ref a)), some (.d (.lst [])), none, none, none, none, none] _ _
  unfold t_law_word
  dsimp only
  have hz := sizeLine_eq
  refine w_cons ?_
  bv_omega
  refine w_cons ?_
  bv_omega
  refine s_draw (b := b + 19) ho (by decide) (by decide) (fun way o1 w0 w1 h1 => ?_)
  bv_omega
  refine w_cons ?_
  bv_omega
  refine s_draw (b := b + 18) h1 (by decide) (by decide) (fun j o2 j0 j1 h2 => ?_)
  obtain ⟨c, ec, lc⟩ := letter_at j0 j1
  bv_omega
  refine x_str lenL ec ?_
  bv_omega
  have wc : Wd 1 ⟨#[c]⟩ := ⟨by show (low c && true) = true; rw [lc]; rfl, Nat.le_refl 1, Nat.le_refl 1⟩
  generalize (⟨#[c]⟩ : Str) = w at wc ⊢
  have tail : ∀ w s5 s6 o, Wd 8 w → FeedL ns b o → wss (CD (k + 1)) cn (t_law_word.body.drop 4) [some (.d (.ref a)), some (.d (.lst [])), some (.d (.str "abcdefghijklmnopqrstuvwxyz")), some (.d (.int way)), some (.d (.str w)), s5, s6] (updD hp a o) ⟨fun _ hp => Q (.d .non) hp, Q, noNx, noNx, fun c fs _ hp => E c fs hp⟩ := fun w s5 s6 o hw h => by
    unfold t_law_word
    dsimp only [List.drop]
    refine w_cons (w_for hc (i_rg1D ?_))
    expose_names
    refine ⟨⟨by decide, by decide⟩, fun _ => trivial, fun i ev hp2 => ∃ w s5, ev = [some (.d (.ref a)), some (.d (.lst [])), some (.d (.str "abcdefghijklmnopqrstuvwxyz")), some (.d (.int way)), some (.d (.str w)), s5, s6] ∧ hp2 = updD hp a o ∧ Wd 8 w, ⟨w, s5, rfl, rfl, hw⟩, ?_, ?_⟩
    · rintro i x ev hp2 ex ⟨w, s5, rfl, rfl, hw⟩
      obtain ⟨hi2, rfl⟩ := rangeD_get _ _ _ _ ex
      expose_names
      refine c_notinE hw.ok ?_
      expose_names
      exact hQ _ _ hw h
    · rintro ev hp2 ⟨w, s5, rfl, rfl, hw⟩
      expose_names
      exact hQ _ _ hw h
  unfold t_law_word at tail
  dsimp only [List.drop] at tail
  have loop : ws (CD (k + 1)) cn (.fr (.n 5) (.rg1 (.call "_law_draw" [.v 0, .int 8])) [.asg (.n 4) (.bin .add (.v 4) (.ix (.v 2) (.call "_law_draw" [.v 0, .int 26])))]) [some (.d (.ref a)), some (.d (.lst [])), some (.d (.str "abcdefghijklmnopqrstuvwxyz")), some (.d (.int way)), some (.d (.str w)), none, none] (updD hp a o2)
      ⟨fun ev hp2 => ∃ w s5 o, ev = [some (.d (.ref a)), some (.d (.lst [])), some (.d (.str "abcdefghijklmnopqrstuvwxyz")), some (.d (.int way)), some (.d (.str w)), s5, none] ∧ hp2 = updD hp a o ∧ Wd 8 w ∧ FeedL ns b o, Q, noNx, noNx, fun c fs _ hp => E c fs hp⟩ := by
    refine w_for hc (i_rg1D ?_)
    expose_names
    refine s_draw (b := b + 17) h2 (by decide) (by decide) (fun m o3 m0 m1 h3 => ?_)
    expose_names
    refine ⟨⟨by omega, by omega⟩, fun _ => trivial, fun i ev hp2 => ∃ w s5 o, ev = [some (.d (.ref a)), some (.d (.lst [])), some (.d (.str "abcdefghijklmnopqrstuvwxyz")), some (.d (.int way)), some (.d (.str w)), s5, none] ∧ hp2 = updD hp a o ∧ Wd (1 + i) w ∧ i ≤ 7 ∧ FeedL ns (b + 17 - i) o, ⟨w, none, o3, rfl, rfl, wc, by decide, h3⟩, ?_, ?_⟩
    · rintro i x ev hp2 ex ⟨w, s5, o, rfl, rfl, hw, hi, h⟩
      obtain ⟨hi2, rfl⟩ := rangeD_get _ _ _ _ ex
      have hi3 : i < 7 := by omega
      expose_names
      refine s_draw (b := b + 17 - (i + 1)) (feed_le h (by omega)) (by decide) (by decide) (fun j o4 j0 j1 h4 => ?_)
      obtain ⟨c, ec, lc⟩ := letter_at j0 j1
      expose_names
      refine x_str lenL ec ?_
      have hl := hw.len
      refine o_addS (by show w.length + 1 ≤ _; omega) ?_
      expose_names
      refine ⟨_, _, _, rfl, rfl, ⟨lo_app hw.lo (by show (low c && true) = true; rw [lc]; rfl), ?_, ?_⟩, by omega, h4⟩
      · rw [str_len]; have := hw.pos; omega
      · rw [str_len]; show w.length + 1 ≤ _; omega
    · rintro ev hp2 ⟨w, s5, o, rfl, rfl, hw, hi, h⟩
      exact ⟨_, _, _, rfl, rfl, ⟨hw.lo, hw.pos, Nat.le_trans hw.len (by omega)⟩, feed_le h (by omega)⟩
  have both : wss (CD (k + 1)) cn [.fr (.n 5) (.rg1 (.call "_law_draw" [.v 0, .int 8])) [.asg (.n 4) (.bin .add (.v 4) (.ix (.v 2) (.call "_law_draw" [.v 0, .int 26])))]] [some (.d (.ref a)), some (.d (.lst [])), some (.d (.str "abcdefghijklmnopqrstuvwxyz")), some (.d (.int way)), some (.d (.str w)), none, none] (updD hp a o2)
      ⟨fun ev hp2 => ∃ w s5 o, ev = [some (.d (.ref a)), some (.d (.lst [])), some (.d (.str "abcdefghijklmnopqrstuvwxyz")), some (.d (.int way)), some (.d (.str w)), s5, none] ∧ hp2 = updD hp a o ∧ Wd 8 w ∧ FeedL ns b o, Q, noNx, noNx, fun c fs _ hp => E c fs hp⟩ :=
    w_cons (ws_mono hc _ _ _ _ _ ⟨fun _ _ q => w_nil (cl := CD (k + 1)) (co := cn) q, fun _ _ q => q, fun _ _ q => q, fun _ _ q => q, fun _ _ _ _ q => q⟩ loop)
  refine w_cons (w_ite ?_)
  expose_names
  refine if_D (fun z => ?_) (fun z => ?_)
  · bv_omega
    refine wss_mono hc _ _ _ _ _ ?_ both
    exact ⟨fun ev hp2 ⟨w, s5, o, e1, e2, hw, h⟩ => by subst e1; subst e2; exact tail w s5 none o hw h, fun _ _ q => q, fun _ _ q => q, fun _ _ q => q, fun _ _ _ _ q => q⟩
  · bv_omega
    refine c_eqE ?_
    bv_omega
    refine wss_mono hc _ _ _ _ _ ?_ both
    exact ⟨fun ev hp2 ⟨w, s5, o, e1, e2, hw, h⟩ => by subst e1; subst e2; exact tail w s5 none o hw h, fun _ _ q => q, fun _ _ q => q, fun _ _ q => q, fun _ _ _ _ q => q⟩
theorem s_fixed (h : ∀ l, okNs 700 l = true → tls l ≤ 60000 → dpDs l ≤ 7 → Q (.ol l) hp) : CD (k + 1) "_law_fixed" [] hp Q E := by
  refine call_intro (F := t_law_fixed) rfl rfl ?_
  generalize callD pg cn k = cl
  show wss cl cn t_law_fixed.body [none, none] hp _
  unfold t_law_fixed
  dsimp only
  expose_names
  refine bin_ol (by decide +kernel) ?_
  exact h _ (by decide +kernel) (by decide +kernel) (by decide +kernel)
end
end K12

set_option maxHeartbeats 0
--mac3
namespace K12
open PySem PySem.Spec PyProof.Rows L2 Mi
theorem tls_le {n : Nat} : ∀ {l : List D}, (∀ x ∈ l, tl x ≤ n) → tls l ≤ (n + 2) * l.length
  | [], _ => by simp [tls]
  | x :: r, h => by
    have h1 := h x List.mem_cons_self
    have h2 := tls_le (l := r) fun y hy => h y (List.mem_cons_of_mem _ hy)
    simp only [tls, List.length_cons, Nat.mul_add]
    omega
/-- a part of a thing -/
structure C (x : D) : Prop where
  ok : okN 100 x = true
  tl : tl x ≤ 200
  dp : dpD x ≤ 1
structure Th (x : D) : Prop where
  ok : okN 100 x = true
  tl : tl x ≤ 1300
  dp : dpD x ≤ 2
  tup : ∃ m, x = .tup m
theorem th_tup {l : List D} (hl : l.length ≤ 6) (h : ∀ x ∈ l, C x) : Th (.tup l) := by
  have h1 := tls_le (n := 200) fun x hx => (h x hx).tl
  have h2 : 202 * l.length ≤ 1212 := by omega
  refine ⟨okNs_iff.mpr fun x hx => (h x hx).ok, ?_, ?_, _, rfl⟩
  · show tls l + 3 ≤ 1300; omega
  · show dpDs l + 1 ≤ 2
    have := dpDs_le.mpr fun x hx => (h x hx).dp
    omega
theorem c_int {i : Int} (h0 : 0 ≤ i) (h1 : i < 64) : C (.int i) := by
  have := log_lt (n := 6) h0 h1 (by decide)
  exact ⟨decide_eq_true (by omega : i.natAbs.log2 < 100), by show i.natAbs.log2 + 3 ≤ 200; omega, by show 0 ≤ 1; decide⟩
theorem c_word {w : Str} (h : Wd 8 w) : C (.str w) := ⟨h.ok, by have := h.len; show 10 * w.length + 2 ≤ 200; omega, by show 0 ≤ 1; decide⟩
abbrev words : List Str := ["go", "get", "lose", "double", "tick", "tear", "fall", "ask", "tell", "late", "done", ""]
theorem c_wordK {w : Str} (h : w ∈ words) : C (.str w) := by
  have a : (words.all fun w => PyData.strOk w && decide (w.length ≤ 6)) = true := by decide +kernel
  obtain ⟨h1, h2⟩ := Bool.and_eq_true_iff.mp (List.all_eq_true.mp a w h)
  exact ⟨h1, by have := of_decide_eq_true h2; show 10 * w.length + 2 ≤ 200; omega, by show 0 ≤ 1; decide⟩
theorem c_tup {l : List D} (hl : l.length ≤ 3) (h : ∀ x ∈ l, (∃ i : Int, x = .int i ∧ 0 ≤ i ∧ i < 64) ∨ ∃ w ∈ words, x = .str w) : C (.tup l) := by
  have hb : ∀ x ∈ l, okN 100 x = true ∧ tl x ≤ 62 ∧ dpD x ≤ 0 := fun x hx => by
    rcases h x hx with ⟨i, rfl, i0, i1⟩ | ⟨w, hw, rfl⟩
    · have c := c_int i0 i1
      have := log_lt (n := 6) i0 i1 (by decide)
      exact ⟨c.ok, by show i.natAbs.log2 + 3 ≤ 62; omega, by show 0 ≤ 0; decide⟩
    · have a : (words.all fun w => PyData.strOk w && decide (w.length ≤ 6)) = true := by decide +kernel
      obtain ⟨h1, h2⟩ := Bool.and_eq_true_iff.mp (List.all_eq_true.mp a w hw)
      exact ⟨h1, by have := of_decide_eq_true h2; show 10 * w.length + 2 ≤ 62; omega, by show 0 ≤ 0; decide⟩
  have h1 := tls_le (n := 62) fun x hx => (hb x hx).2.1
  have h2 : 64 * l.length ≤ 192 := by omega
  refine ⟨okNs_iff.mpr fun x hx => (hb x hx).1, ?_, ?_⟩
  · show tls l + 3 ≤ 200; omega
  · show dpDs l + 1 ≤ 1
    have := dpDs_le.mpr fun x hx => (hb x hx).2.2
    omega
section
variable {k : Nat} {hp : HpD} {Q : SK} {E : EK} {K : Bool → Prop}
theorem s_thing {ns : List Int} {b : Nat} {a : Addr} {o : MO} (ho : FeedL ns (b + 50) o) (hQ : ∀ x o', Th x → FeedL ns b o' → Q (.d x) (updD hp a o')) : CD (k + 3) "_law_thing" [.ref a] (updD hp a o) Q E := by
  refine call_intro (F := t_law_thing) rfl rfl ?_
  have hc := call_mono pg cn (k + 2)
  show wss (CD (k + 2)) cn t_law_thing.body [some (.d (.ref a)), none, none, none, none, none, none, none] _ _
  unfold t_law_thing
  dsimp only
  have hz := sizeLine_eq
  refine w_cons ?_
  bv_omega
  refine s_draw (b := b + 49) ho (by decide) (by decide) fun n o1 n0 n1 h1 => ?_
  bv_omega
  refine s_draw (b := b + 48) h1 (by decide) (by decide) fun ln o2 l0 l1 h2 => ?_
  bv_omega
  refine r_cmpr hc rfl (i_rg1D ?_)
  bv_omega
  refine ⟨⟨by decide, by decide⟩, fun _ => trivial, fun j acc hp' => ∃ o, hp' = updD hp a o ∧ acc.length = j ∧ (∀ x ∈ acc, ∃ i : Int, x = .int i ∧ 0 ≤ i ∧ i < 64) ∧ FeedL ns (b + 48 - j) o ∧ j ≤ 3, ⟨o2, rfl, rfl, nofun, h2, by decide⟩, ?_, ?_⟩
  · rintro j x acc hp' ex ⟨o, rfl, hl, ha, h, hj⟩
    obtain ⟨hj2, rfl⟩ := rangeD_get _ _ _ _ ex
    have hj3 : j < 3 := hj2
    refine ⟨_, rfl, ?_⟩
    bv_omega
    refine s_draw (b := b + 48 - (j + 1)) (feed_le h (by omega)) (by decide) (by decide) fun i o4 i0 i1 h4 => ?_
    bv_omega
    refine ap_lt (by omega) ?_
    refine ⟨o4, rfl, by rw [List.length_append, hl]; rfl, fun y hy => ?_, h4, by omega⟩
    rcases List.mem_append.mp hy with hy | hy
    · exact ha y hy
    · rw [List.mem_singleton.mp hy]; exact ⟨i, rfl, i0, by omega⟩
  rintro acc hp' ⟨o3, rfl, hl, ha, h3, _⟩
  rw [rangeD_len] at hl h3
  have ck : C (.tup acc) := c_tup (by rw [hl]; decide) fun x hx => .inl (ha x hx)
  bv_omega
  refine w_cons ?_
  bv_omega
  refine s_draw (b := b + 44) (feed_le h3 (by show b + 45 ≤ b + 48 - 3; omega)) (by decide) (by decide) fun j o4 j0 j1 h4 => ?_
  have mn : ∀ y ∈ ([.tup [.str "late"], .tup [.str "done", .int n]] : List D), C y ∧ Th y := fun y hy => by
    simp only [List.mem_cons, List.not_mem_nil, or_false] at hy
    rcases hy with rfl | rfl
    · exact ⟨c_tup (by show 1 ≤ 3; decide) (by simp [words]), th_tup (by show 1 ≤ 6; decide) fun x hx => by rw [List.mem_singleton.mp hx]; exact c_wordK (by simp [words])⟩
    · refine ⟨c_tup (by show 2 ≤ 3; decide) fun x hx => ?_, th_tup (by show 2 ≤ 6; decide) fun x hx => ?_⟩
      · simp only [List.mem_cons, List.not_mem_nil, or_false] at hx
        rcases hx with rfl | rfl
        · exact .inr ⟨"done", by simp [words], rfl⟩
        · exact .inl ⟨n, rfl, n0, by omega⟩
      · simp only [List.mem_cons, List.not_mem_nil, or_false] at hx
        rcases hx with rfl | rfl
        · exact c_wordK (by simp [words])
        · exact c_int n0 (by omega)
  obtain ⟨ans, hans, eans, _⟩ := atI_of (l := ([.tup [.str "late"], .tup [.str "done", .int n]] : List D)) j0 (by show j < 2; exact j1)
  obtain ⟨ca, ta⟩ := mn ans hans
  bv_omega
  refine x_tup eans ?_
  bv_omega
  refine w_cons ?_
  bv_omega
  refine s_word (k := k) (b := b + 24) (feed_le h4 (by omega)) fun w o5 hw h5 => ?_
  bv_omega
  refine s_draw (b := b + 23) (feed_le h5 (by omega)) (by decide) (by decide) fun p o6 p0 p1 h6 => ?_
  bv_omega
  refine s_draw (b := b + 22) h6 (by decide) (by decide) fun q o7 q0 q1 h7 => ?_
  bv_omega
  refine w_cons ?_
  bv_omega
  refine w_cons ?_
  bv_omega
  refine bin_ol (by show 5 + 6 ≤ sizeLine; omega) ?_
  bv_omega
  refine s_draw (b := b + 21) h7 (by decide) (by decide) fun i o8 i0 i1 h8 => ?_
  have dn := c_int n0 (by omega : n < 64)
  have dl := c_int l0 (by omega : ln < 64)
  have two : ∀ (w : Str), w ∈ words → Th (.tup [.str w, .int ln, .int n]) := fun w hw => th_tup (by show 3 ≤ 6; decide) fun x hx => by
    simp only [List.mem_cons, List.not_mem_nil, or_false] at hx
    rcases hx with rfl | rfl | rfl
    · exact c_wordK hw
    · exact dl
    · exact dn
  have ask : Th (.tup [.str "ask", .tup acc, .str w, .int (1 + n), .int p, .int q]) := th_tup (by show 6 ≤ 6; decide) fun x hx => by
    simp only [List.mem_cons, List.not_mem_nil, or_false] at hx
    rcases hx with rfl | rfl | rfl | rfl | rfl | rfl
    · exact c_wordK (by simp [words])
    · exact ck
    · exact c_word hw
    · exact c_int (by omega) (by omega)
    · exact c_int p0 (by omega)
    · exact c_int q0 (by omega)
  have one : ∀ (w : Str), w ∈ words → Th (.tup [.str w]) := fun w hw => th_tup (by show 1 ≤ 6; decide) fun x hx => by rw [List.mem_singleton.mp hx]; exact c_wordK hw
  have pair : ∀ (w : Str) (y : D), w ∈ words → C y → Th (.tup [.str w, y]) := fun w y hw hy => th_tup (by show 2 ≤ 6; decide) fun x hx => by
    simp only [List.mem_cons, List.not_mem_nil, or_false] at hx
    rcases hx with rfl | rfl
    · exact c_wordK hw
    · exact hy
  have tell : Th (.tup [.str "tell", .tup acc, ans]) := th_tup (by show 3 ≤ 6; decide) fun x hx => by
    simp only [List.mem_cons, List.not_mem_nil, or_false] at hx
    rcases hx with rfl | rfl | rfl
    · exact c_wordK (by simp [words])
    · exact ck
    · exact ca
  obtain ⟨y, hy, ey, _⟩ := atI_of (l := ([.tup [.str "go", .int (n % 4)], .tup [.str "get", .int ln, .int n], .tup [.str "lose", .int ln, .int n], .tup [.str "double", .int ln, .int n], .tup [.str "tick"]] ++
    [.tup [.str "tear", .int ln], .tup [.str "fall"], .tup [.str "ask", .tup acc, .str w, .int (1 + n), .int p, .int q], .tup [.str "ask", .tup acc, .str w, .int (1 + n), .int p, .int q], .tup [.str "tell", .tup acc, ans], ans] : List D)) i0 (by show i < 11; exact i1)
  bv_omega
  refine x_ol ey ?_
  refine hQ y o8 ?_ (feed_le h8 (by omega))
  simp only [List.cons_append, List.nil_append, List.mem_cons, List.not_mem_nil, or_false] at hy
  rcases hy with rfl | rfl | rfl | rfl | rfl | rfl | rfl | rfl | rfl | rfl | rfl
  · exact pair "go" _ (by simp [words]) (c_int (by omega) (by omega))
  · exact two "get" (by simp [words])
  · exact two "lose" (by simp [words])
  · exact two "double" (by simp [words])
  · exact one "tick" (by simp [words])
  · exact pair "tear" _ (by simp [words]) dl
  · exact one "fall" (by simp [words])
  · exact ask
  · exact ask
  · exact tell
  · exact ta
end
end K12

set_option maxHeartbeats 0
--mac3
namespace K12
open PySem PySem.Spec PyProof.Rows L2 Mi
theorem updD_comm {hp : HpD} {a b : Addr} {o u : MO} (h : a ≠ b) : updD (updD hp a o) b u = updD (updD hp b u) a o := by
  funext c; unfold updD
  by_cases h1 : c = b
  · rw [if_pos h1, if_neg (by rw [h1]; exact fun z => h z.symm), if_pos h1]
  · rw [if_neg h1, if_neg h1]
theorem SzL.cut {B d : Nat} {l : List D} (h : SzL B d l) (lo hi : Option Int) : SzL B d (Mi.cut l lo hi) := by
  unfold Mi.cut
  exact (h.drop _).take _
section
variable {k : Nat} {hp : HpD} {Q : SK} {E : EK} {K : Bool → Prop}
theorem s_near {ns : List Int} {b : Nat} {a : Addr} {o : MO} {x : D} (hx : Th x) (ho : FeedL ns (b + 40) o) (hQ : ∀ l o', l.length = 11 → (∀ x ∈ l, Sz 8000 7 x) → FeedL ns b o' → Q (.ol l) (updD hp a o')) : CD (k + 8) "_law_near" [.ref a, x] (updD hp a o) Q E := by
  refine call_intro (F := t_law_near) rfl rfl ?_
  show wss (CD (k + 7)) cn t_law_near.body [some (.d (.ref a)), some (.d x), none, none, none] _ _
  unfold t_law_near
  dsimp only
  have hz := sizeLine_eq
  obtain ⟨m, rfl⟩ := hx.tup
  have h700 : okN 700 (.tup m) = true := okN_le (by decide) hx.ok
  have ht := hx.tl
  have hd := hx.dp
  have sx : Sz 1300 2 (.tup m) := ⟨okN_le (by decide) hx.ok, ht, hd⟩
  have sm : SzL 1297 1 m := sx.items
  have hlen := sm.len
  refine w_cons ?_
  bv_omega
  refine s_odd ?_
  bv_omega
  refine s_bend oddOk (n := 700) (by decide) (by decide) 2 (k + 3) (b := b + 28) hd h700 (by omega) (feed_le ho (by omega)) fun y1 o1 b1 h1 => ?_
  have z1 := b1.tl
  have z2 := b1.dp
  bv_omega
  refine w_cons ?_
  bv_omega
  refine w_cons ?_
  bv_omega
  refine s_odd ?_
  bv_omega
  refine s_bend oddOk (n := 701) (by decide) (by decide) 4 (k + 1) (b := b + 8) (by omega) b1.ok (by omega) (feed_le h1 (by omega)) fun y2 o2 b2 h2 => ?_
  have z3 := b2.tl
  have z4 := b2.dp
  have lc : ∀ lo hi, (Mi.cut m lo hi).length ≤ m.length := fun lo hi => by unfold Mi.cut; rw [List.length_take, List.length_drop]; omega
  bv_omega
  refine o_addT (by have := lc (some (-1)) none; omega) ?_
  bv_omega
  refine w_cons ?_
  bv_omega
  refine w_cons ?_
  bv_omega
  refine s_draw (b := b + 7) (feed_le h2 (by omega)) (by decide) (by decide) fun j o3 j0 j1 h3 => ?_
  obtain ⟨w0, hw0, ew, _⟩ := atI_of (l := words.map D.str) j0 (by show j < 12; exact j1)
  obtain ⟨w, hw, rfl⟩ := List.mem_map.mp hw0
  have cw := c_wordK hw
  bv_omega
  refine x_tup ew ?_
  bv_omega
  refine o_addT (by have := lc (some 1) none; show 1 + _ ≤ _; omega) ?_
  bv_omega
  refine o_addT (by show m.length + 1 ≤ _; omega) ?_
  bv_omega
  refine bin_ol (by show 8 + 3 ≤ sizeLine; omega) ?_
  refine hQ _ o3 rfl (fun z hz => ?_) (feed_le h3 (by omega))
  have sw : Sz 200 1 (.str w) := ⟨okN_le (by decide) cw.ok, cw.tl, cw.dp⟩
  have s1 : Sz 8000 7 y1 := ⟨okN_le (by decide) b1.ok, by omega, by omega⟩
  have s2 : Sz 8000 7 y2 := ⟨okN_le (by decide) b2.ok, by omega, by omega⟩
  simp only [List.cons_append, List.nil_append, List.mem_cons, List.not_mem_nil, or_false] at hz
  rcases hz with rfl | rfl | rfl | rfl | rfl | rfl | rfl | rfl | rfl | rfl | rfl
  · exact sx.le (by decide) (by decide)
  · exact s1
  · exact s2
  · exact sm.lst.le (by decide) (by decide)
  · exact (sm.cut _ _).tup.le (by decide) (by decide)
  · exact (sm.cut _ _).tup.le (by decide) (by decide)
  · exact (sm.app (sm.cut _ _)).tup.le (by decide) (by decide)
  · exact sm.rev.tup.le (by decide) (by decide)
  · exact ((SzL.one sw).app (sm.cut _ _)).tup.le (by decide) (by decide)
  · exact (SzL.one sx).tup.le (by decide) (by decide)
  · exact (sm.app (SzL.one (B := 720) (d := 1) (sz_int (i := 0) (by decide)))).tup.le (by decide) (by decide)
end
end K12

set_option maxHeartbeats 0
--mac3
namespace K12
open PySem PySem.Spec PyProof.Rows L2 Mi
theorem tls_mul {n : Nat} {l : List D} (h : ∀ x ∈ l, tl x ≤ n) : tls l ≤ (n + 2) * l.length := tls_le h
theorem law_ok : ∀ ns : List Int, ns.length ≤ 63 → callD pg co 30 "law" [.lst (ns.map D.int)] (fun _ => none) (truK fun b _ => b = true) noE := by
  intro ns hn
  refine call_intro (F := t_law) rfl rfl ?_
  have hc := call_mono pg cn 29
  show wss (CD 29) cn t_law.body [some (.d (.lst (ns.map .int))), none, none, none, none, none, none] _ _
  unfold t_law
  dsimp only
  have hz := sizeLine_eq
  refine w_cons ?_
  bv_omega
  refine s_feed hn ?_
  intro a _
  bv_omega
  have f0 := feed0 ns
  generalize (MO.lst [D.lst (ns.map .int), .int 0, .int 0, .int 0]) = o0 at f0 ⊢
  refine w_cons ?_
  bv_omega
  refine s_fixed (k := 28) fun things q1 q2 q3 => ?_
  bv_omega
  have q4 := tls_len things
  refine w_cons (w_for hc (i_rg1D ?_))
  expose_names
  refine ⟨⟨by decide, by decide⟩, fun _ => trivial, fun i ev hp => ∃ l o s3, ev = [some (.d (.lst (ns.map .int))), some (.d (.ref a)), some (.ol l), s3, none, none, none] ∧ hp = updD (fun _ => none) a o ∧ tls l ≤ 60000 + 90000 * i ∧ (∀ x ∈ l, Sz 60000 7 x) ∧ i ≤ 40 ∧ FeedL ns (900000 - 100 * i) o,
    ⟨things, o0, none, rfl, rfl, by omega, fun x hx => ⟨okN_le (by decide) (okNs_iff.mp q1 x hx), by have := tls_mem hx; omega, dpDs_le.mp q3 x hx⟩, by decide, feed_le f0 (by decide)⟩, ?_, ?_⟩
  · rintro i x ev hp ex ⟨l, o, s3, rfl, rfl, ht, hl, hi, ho⟩
    obtain ⟨hi2, rfl⟩ := rangeD_get _ _ _ _ ex
    have hi3 : i < 40 := hi2
    bv_omega
    refine w_cons ?_
    bv_omega
    refine s_thing (k := 26) (b := 900000 - 100 * i - 50) (feed_le ho (by omega)) fun x o1 hx h1 => ?_
    bv_omega
    refine s_near (k := 21) hx (b := 900000 - 100 * i - 90) (feed_le h1 (by omega)) fun m o2 hm hs h2 => ?_
    have m1 := tls_mul fun x hx => (hs x hx).tl
    rw [hm] at m1
    have l1 := tls_len l
    bv_omega
    refine ap_le (by omega) ?_
    expose_names
    refine ⟨l ++ m, o2, _, rfl, rfl, by rw [tls_app]; omega, fun z hz => ?_, by omega, feed_le h2 (by omega)⟩
    rcases List.mem_append.mp hz with hz | hz
    · exact hl z hz
    · exact (hs z hz).le (by decide) (Nat.le_refl _)
  · rintro ev hp ⟨l, o, s3, rfl, rfl, ht, hl, hi, ho⟩
    dsimp only at ht
    rw [rangeD_len] at ht
    have ht2 : tls l ≤ 3660000 := ht
    have okl : okNs 710 l = true := okNs_iff.mpr fun x hx => (hl x hx).ok
    have dl : dpDs l ≤ 7 := dpDs_le.mpr fun x hx => (hl x hx).dp
    refine w_cons ?_
    bv_omega
    refine rp_xl okl (by decide) (by omega) (by omega) ?_
    bv_omega
    refine w_cons ?_
    bv_omega
    refine w_cons (w_for hc (i_e ?_))
    expose_names
    refine s_lst ⟨fun _ => trivial, fun j ev hp => ∃ H s5 s6, ev = [some (.d (.lst (ns.map .int))), some (.d (.ref a)), some (.d (.lst l)), s3, some (.d (.str (reprD (.lst l)))), s5, s6] ∧ hp = updD H a o, ⟨_, none, none, rfl, rfl⟩, ?_, ?_⟩
    · rintro j z ev hp ez ⟨H, s5, s6, rfl, rfl⟩
      have mz : z ∈ l := List.mem_of_getElem? ez
      have z0 := hl z mz
      have sz : Sm1 z := ⟨okN_le (by decide) z0.ok, by have := z0.tl; omega, by have := z0.dp; omega⟩
      have rb : ∀ (b c d : Bool) (hp : HpD) (Q : SK), Q (.d (.str (reprD (.tup [.bl b, .bl c, .bl d])))) hp → opB1 .repr (.d (.tup [.bl b, .bl c, .bl d])) hp Q := fun b c d hp Q q =>
        rp_x (n := 1) rfl (by decide) (by show 24 ≤ _; omega) (by show max 0 (max 0 (max 0 0)) + 1 ≤ 64; decide) q
      bv_omega
      refine w_cons ?_
      bv_omega
      refine s_answer (k := 27) sz ?_
      bv_omega
      refine s_step (k := 25) sz ?_
      bv_omega
      refine s_letter (k := 26) sz ?_
      bv_omega
      refine w_cons ?_
      bv_omega
      refine rb _ _ _ _ _ ?_
      bv_omega
      refine s_answered (k := 26) sz ?_
      bv_omega
      refine s_stepped (k := 26) sz ?_ fun p L hpp => ?_
      · bv_omega
        refine s_lettered (k := 25) sz ?_
        bv_omega
        refine rb _ _ _ _ _ ?_
        bv_omega
        refine if_N (fun c => (c rfl).elim) (fun _ => ?_)
        expose_names
        exact ⟨_, _, _, rfl, rfl⟩
      · have hpa : a ≠ p := fun z => by rw [← z, updD_same] at hpp; cases hpp
        rw [updD_comm hpa]
        bv_omega
        refine s_lettered (k := 25) sz ?_
        bv_omega
        refine rb _ _ _ _ _ ?_
        bv_omega
        refine if_N (fun c => (c rfl).elim) (fun _ => ?_)
        expose_names
        exact ⟨_, _, _, rfl, rfl⟩
    · rintro ev hp ⟨H, s5, s6, rfl, rfl⟩
      expose_names
      refine rp_x (n := 710) okl (by decide) (by show tls l + 3 ≤ _; omega) (by show dpDs l + 1 ≤ 64; omega) ?_
      expose_names
      rw [decide_eq_true rfl]
end K12

set_option maxHeartbeats 0
namespace K12
open PySem PySem.Spec PyProof.Rows L2 Mi
theorem all_mk {P : Program} {w : World} {K : PySem.W.Frag} {h : Heap} {mg : Str → Option Value} (X : K.In h) (G : h.Ns mainGlobals mg)
    {f1 f2 f3 f4 f5 f6 f7 f8 f9 f10 f11 f12 f13 f14 f15 f16 f17 f18 f19 f20 f21 f22 f23 f24 f25 f26 f27 : Addr} {od1 an1 od2 an2 od3 an3 od4 an4 od5 an5 od6 an6 od7 an7 od8 an8 od9 an9 od10 an10 od11 an11 od12 an12 od13 an13 od14 an14 od15 an15 od16 an16 od17 an17 od18 an18 od19 an19 od20 an20 od21 an21 od22 an22 od23 an23 od24 an24 od25 an25 od26 an26 od27 an27 : Option Addr} {sl1 sl2 sl3 sl4 sl5 sl6 sl7 sl8 sl9 sl10 sl11 sl12 sl13 sl14 sl15 sl16 sl17 sl18 sl19 sl20 sl21 sl22 sl23 sl24 sl25 sl26 sl27 : Array (Option Value)}
    {oc1 kV1 dc1 pm1 cd1 ct1 oc2 kV2 dc2 pm2 cd2 ct2 oc3 kV3 dc3 pm3 cd3 ct3 oc4 kV4 dc4 pm4 cd4 ct4 oc5 kV5 dc5 pm5 cd5 ct5 oc6 kV6 dc6 pm6 cd6 ct6 oc7 kV7 dc7 pm7 cd7 ct7 oc8 kV8 dc8 pm8 cd8 ct8 oc9 kV9 dc9 pm9 cd9 ct9 oc10 kV10 dc10 pm10 cd10 ct10 oc11 kV11 dc11 pm11 cd11 ct11 oc12 kV12 dc12 pm12 cd12 ct12 oc13 kV13 dc13 pm13 cd13 ct13 oc14 kV14 dc14 pm14 cd14 ct14 oc15 kV15 dc15 pm15 cd15 ct15 oc16 kV16 dc16 pm16 cd16 ct16 oc17 kV17 dc17 pm17 cd17 ct17 oc18 kV18 dc18 pm18 cd18 ct18 oc19 kV19 dc19 pm19 cd19 ct19 oc20 kV20 dc20 pm20 cd20 ct20 oc21 kV21 dc21 pm21 cd21 ct21 oc22 kV22 dc22 pm22 cd22 ct22 oc23 kV23 dc23 pm23 cd23 ct23 oc24 kV24 dc24 pm24 cd24 ct24 oc25 kV25 dc25 pm25 cd25 ct25 oc26 kV26 dc26 pm26 cd26 ct26 oc27 kV27 dc27 pm27 cd27 ct27 : Value}
    (a1 : PySem.W.nsIn K mainGlobals "is_number" = some (some (.ref f1)))
    (l1 : K.lookup f1 = some ⟨oc1, od1, .func (PySem.W.fnOf "is_number" "is_number" (defArgs (stOf "is_number")) (defBody (stOf "is_number")) (defScope (stOf "is_number")) .none kV1 dc1 pm1 an1 cd1 ct1), sl1⟩)
    (c1 : PySem.W.codeIn K cd1 "is_number" = true) (k1 : PySem.W.keepIn K (.ref f1) = true)
    (a2 : PySem.W.nsIn K mainGlobals "is_word" = some (some (.ref f2)))
    (l2 : K.lookup f2 = some ⟨oc2, od2, .func (PySem.W.fnOf "is_word" "is_word" (defArgs (stOf "is_word")) (defBody (stOf "is_word")) (defScope (stOf "is_word")) .none kV2 dc2 pm2 an2 cd2 ct2), sl2⟩)
    (c2 : PySem.W.codeIn K cd2 "is_word" = true) (k2 : PySem.W.keepIn K (.ref f2) = true)
    (a3 : PySem.W.nsIn K mainGlobals "are_numbers" = some (some (.ref f3)))
    (l3 : K.lookup f3 = some ⟨oc3, od3, .func (PySem.W.fnOf "are_numbers" "are_numbers" (defArgs (stOf "are_numbers")) (defBody (stOf "are_numbers")) (defScope (stOf "are_numbers")) .none kV3 dc3 pm3 an3 cd3 ct3), sl3⟩)
    (c3 : PySem.W.codeIn K cd3 "are_numbers" = true) (k3 : PySem.W.keepIn K (.ref f3) = true)
    (a4 : PySem.W.nsIn K mainGlobals "is_answer" = some (some (.ref f4)))
    (l4 : K.lookup f4 = some ⟨oc4, od4, .func (PySem.W.fnOf "is_answer" "is_answer" (defArgs (stOf "is_answer")) (defBody (stOf "is_answer")) (defScope (stOf "is_answer")) .none kV4 dc4 pm4 an4 cd4 ct4), sl4⟩)
    (c4 : PySem.W.codeIn K cd4 "is_answer" = true) (k4 : PySem.W.keepIn K (.ref f4) = true)
    (a5 : PySem.W.nsIn K mainGlobals "is_lane" = some (some (.ref f5)))
    (l5 : K.lookup f5 = some ⟨oc5, od5, .func (PySem.W.fnOf "is_lane" "is_lane" (defArgs (stOf "is_lane")) (defBody (stOf "is_lane")) (defScope (stOf "is_lane")) .none kV5 dc5 pm5 an5 cd5 ct5), sl5⟩)
    (c5 : PySem.W.codeIn K cd5 "is_lane" = true) (k5 : PySem.W.keepIn K (.ref f5) = true)
    (a6 : PySem.W.nsIn K mainGlobals "is_going" = some (some (.ref f6)))
    (l6 : K.lookup f6 = some ⟨oc6, od6, .func (PySem.W.fnOf "is_going" "is_going" (defArgs (stOf "is_going")) (defBody (stOf "is_going")) (defScope (stOf "is_going")) .none kV6 dc6 pm6 an6 cd6 ct6), sl6⟩)
    (c6 : PySem.W.codeIn K cd6 "is_going" = true) (k6 : PySem.W.keepIn K (.ref f6) = true)
    (a7 : PySem.W.nsIn K mainGlobals "is_handling" = some (some (.ref f7)))
    (l7 : K.lookup f7 = some ⟨oc7, od7, .func (PySem.W.fnOf "is_handling" "is_handling" (defArgs (stOf "is_handling")) (defBody (stOf "is_handling")) (defScope (stOf "is_handling")) .none kV7 dc7 pm7 an7 cd7 ct7), sl7⟩)
    (c7 : PySem.W.codeIn K cd7 "is_handling" = true) (k7 : PySem.W.keepIn K (.ref f7) = true)
    (a8 : PySem.W.nsIn K mainGlobals "is_tearing" = some (some (.ref f8)))
    (l8 : K.lookup f8 = some ⟨oc8, od8, .func (PySem.W.fnOf "is_tearing" "is_tearing" (defArgs (stOf "is_tearing")) (defBody (stOf "is_tearing")) (defScope (stOf "is_tearing")) .none kV8 dc8 pm8 an8 cd8 ct8), sl8⟩)
    (c8 : PySem.W.codeIn K cd8 "is_tearing" = true) (k8 : PySem.W.keepIn K (.ref f8) = true)
    (a9 : PySem.W.nsIn K mainGlobals "is_bare" = some (some (.ref f9)))
    (l9 : K.lookup f9 = some ⟨oc9, od9, .func (PySem.W.fnOf "is_bare" "is_bare" (defArgs (stOf "is_bare")) (defBody (stOf "is_bare")) (defScope (stOf "is_bare")) .none kV9 dc9 pm9 an9 cd9 ct9), sl9⟩)
    (c9 : PySem.W.codeIn K cd9 "is_bare" = true) (k9 : PySem.W.keepIn K (.ref f9) = true)
    (a10 : PySem.W.nsIn K mainGlobals "is_step" = some (some (.ref f10)))
    (l10 : K.lookup f10 = some ⟨oc10, od10, .func (PySem.W.fnOf "is_step" "is_step" (defArgs (stOf "is_step")) (defBody (stOf "is_step")) (defScope (stOf "is_step")) .none kV10 dc10 pm10 an10 cd10 ct10), sl10⟩)
    (c10 : PySem.W.codeIn K cd10 "is_step" = true) (k10 : PySem.W.keepIn K (.ref f10) = true)
    (a11 : PySem.W.nsIn K mainGlobals "is_letter" = some (some (.ref f11)))
    (l11 : K.lookup f11 = some ⟨oc11, od11, .func (PySem.W.fnOf "is_letter" "is_letter" (defArgs (stOf "is_letter")) (defBody (stOf "is_letter")) (defScope (stOf "is_letter")) .none kV11 dc11 pm11 an11 cd11 ct11), sl11⟩)
    (c11 : PySem.W.codeIn K cd11 "is_letter" = true) (k11 : PySem.W.keepIn K (.ref f11) = true)
    (a12 : PySem.W.nsIn K mainGlobals "_law_feed" = some (some (.ref f12)))
    (l12 : K.lookup f12 = some ⟨oc12, od12, .func (PySem.W.fnOf "_law_feed" "_law_feed" (defArgs (stOf "_law_feed")) (defBody (stOf "_law_feed")) (defScope (stOf "_law_feed")) .none kV12 dc12 pm12 an12 cd12 ct12), sl12⟩)
    (c12 : PySem.W.codeIn K cd12 "_law_feed" = true) (k12 : PySem.W.keepIn K (.ref f12) = true)
    (a13 : PySem.W.nsIn K mainGlobals "_law_draw" = some (some (.ref f13)))
    (l13 : K.lookup f13 = some ⟨oc13, od13, .func (PySem.W.fnOf "_law_draw" "_law_draw" (defArgs (stOf "_law_draw")) (defBody (stOf "_law_draw")) (defScope (stOf "_law_draw")) .none kV13 dc13 pm13 an13 cd13 ct13), sl13⟩)
    (c13 : PySem.W.codeIn K cd13 "_law_draw" = true) (k13 : PySem.W.keepIn K (.ref f13) = true)
    (a14 : PySem.W.nsIn K mainGlobals "_law_after" = some (some (.ref f14)))
    (l14 : K.lookup f14 = some ⟨oc14, od14, .func (PySem.W.fnOf "_law_after" "_law_after" (defArgs (stOf "_law_after")) (defBody (stOf "_law_after")) (defScope (stOf "_law_after")) .none kV14 dc14 pm14 an14 cd14 ct14), sl14⟩)
    (c14 : PySem.W.codeIn K cd14 "_law_after" = true) (k14 : PySem.W.keepIn K (.ref f14) = true)
    (a15 : PySem.W.nsIn K mainGlobals "_law_word" = some (some (.ref f15)))
    (l15 : K.lookup f15 = some ⟨oc15, od15, .func (PySem.W.fnOf "_law_word" "_law_word" (defArgs (stOf "_law_word")) (defBody (stOf "_law_word")) (defScope (stOf "_law_word")) .none kV15 dc15 pm15 an15 cd15 ct15), sl15⟩)
    (c15 : PySem.W.codeIn K cd15 "_law_word" = true) (k15 : PySem.W.keepIn K (.ref f15) = true)
    (a16 : PySem.W.nsIn K mainGlobals "_law_bend" = some (some (.ref f16)))
    (l16 : K.lookup f16 = some ⟨oc16, od16, .func (PySem.W.fnOf "_law_bend" "_law_bend" (defArgs (stOf "_law_bend")) (defBody (stOf "_law_bend")) (defScope (stOf "_law_bend")) .none kV16 dc16 pm16 an16 cd16 ct16), sl16⟩)
    (c16 : PySem.W.codeIn K cd16 "_law_bend" = true) (k16 : PySem.W.keepIn K (.ref f16) = true)
    (a17 : PySem.W.nsIn K mainGlobals "_law_odd" = some (some (.ref f17)))
    (l17 : K.lookup f17 = some ⟨oc17, od17, .func (PySem.W.fnOf "_law_odd" "_law_odd" (defArgs (stOf "_law_odd")) (defBody (stOf "_law_odd")) (defScope (stOf "_law_odd")) .none kV17 dc17 pm17 an17 cd17 ct17), sl17⟩)
    (c17 : PySem.W.codeIn K cd17 "_law_odd" = true) (k17 : PySem.W.keepIn K (.ref f17) = true)
    (a18 : PySem.W.nsIn K mainGlobals "_law_whole" = some (some (.ref f18)))
    (l18 : K.lookup f18 = some ⟨oc18, od18, .func (PySem.W.fnOf "_law_whole" "_law_whole" (defArgs (stOf "_law_whole")) (defBody (stOf "_law_whole")) (defScope (stOf "_law_whole")) .none kV18 dc18 pm18 an18 cd18 ct18), sl18⟩)
    (c18 : PySem.W.codeIn K cd18 "_law_whole" = true) (k18 : PySem.W.keepIn K (.ref f18) = true)
    (a19 : PySem.W.nsIn K mainGlobals "_law_worded" = some (some (.ref f19)))
    (l19 : K.lookup f19 = some ⟨oc19, od19, .func (PySem.W.fnOf "_law_worded" "_law_worded" (defArgs (stOf "_law_worded")) (defBody (stOf "_law_worded")) (defScope (stOf "_law_worded")) .none kV19 dc19 pm19 an19 cd19 ct19), sl19⟩)
    (c19 : PySem.W.codeIn K cd19 "_law_worded" = true) (k19 : PySem.W.keepIn K (.ref f19) = true)
    (a20 : PySem.W.nsIn K mainGlobals "_law_numbers" = some (some (.ref f20)))
    (l20 : K.lookup f20 = some ⟨oc20, od20, .func (PySem.W.fnOf "_law_numbers" "_law_numbers" (defArgs (stOf "_law_numbers")) (defBody (stOf "_law_numbers")) (defScope (stOf "_law_numbers")) .none kV20 dc20 pm20 an20 cd20 ct20), sl20⟩)
    (c20 : PySem.W.codeIn K cd20 "_law_numbers" = true) (k20 : PySem.W.keepIn K (.ref f20) = true)
    (a21 : PySem.W.nsIn K mainGlobals "_law_answered" = some (some (.ref f21)))
    (l21 : K.lookup f21 = some ⟨oc21, od21, .func (PySem.W.fnOf "_law_answered" "_law_answered" (defArgs (stOf "_law_answered")) (defBody (stOf "_law_answered")) (defScope (stOf "_law_answered")) .none kV21 dc21 pm21 an21 cd21 ct21), sl21⟩)
    (c21 : PySem.W.codeIn K cd21 "_law_answered" = true) (k21 : PySem.W.keepIn K (.ref f21) = true)
    (a22 : PySem.W.nsIn K mainGlobals "_law_stepped" = some (some (.ref f22)))
    (l22 : K.lookup f22 = some ⟨oc22, od22, .func (PySem.W.fnOf "_law_stepped" "_law_stepped" (defArgs (stOf "_law_stepped")) (defBody (stOf "_law_stepped")) (defScope (stOf "_law_stepped")) .none kV22 dc22 pm22 an22 cd22 ct22), sl22⟩)
    (c22 : PySem.W.codeIn K cd22 "_law_stepped" = true) (k22 : PySem.W.keepIn K (.ref f22) = true)
    (a23 : PySem.W.nsIn K mainGlobals "_law_lettered" = some (some (.ref f23)))
    (l23 : K.lookup f23 = some ⟨oc23, od23, .func (PySem.W.fnOf "_law_lettered" "_law_lettered" (defArgs (stOf "_law_lettered")) (defBody (stOf "_law_lettered")) (defScope (stOf "_law_lettered")) .none kV23 dc23 pm23 an23 cd23 ct23), sl23⟩)
    (c23 : PySem.W.codeIn K cd23 "_law_lettered" = true) (k23 : PySem.W.keepIn K (.ref f23) = true)
    (a24 : PySem.W.nsIn K mainGlobals "_law_thing" = some (some (.ref f24)))
    (l24 : K.lookup f24 = some ⟨oc24, od24, .func (PySem.W.fnOf "_law_thing" "_law_thing" (defArgs (stOf "_law_thing")) (defBody (stOf "_law_thing")) (defScope (stOf "_law_thing")) .none kV24 dc24 pm24 an24 cd24 ct24), sl24⟩)
    (c24 : PySem.W.codeIn K cd24 "_law_thing" = true) (k24 : PySem.W.keepIn K (.ref f24) = true)
    (a25 : PySem.W.nsIn K mainGlobals "_law_fixed" = some (some (.ref f25)))
    (l25 : K.lookup f25 = some ⟨oc25, od25, .func (PySem.W.fnOf "_law_fixed" "_law_fixed" (defArgs (stOf "_law_fixed")) (defBody (stOf "_law_fixed")) (defScope (stOf "_law_fixed")) .none kV25 dc25 pm25 an25 cd25 ct25), sl25⟩)
    (c25 : PySem.W.codeIn K cd25 "_law_fixed" = true) (k25 : PySem.W.keepIn K (.ref f25) = true)
    (a26 : PySem.W.nsIn K mainGlobals "_law_near" = some (some (.ref f26)))
    (l26 : K.lookup f26 = some ⟨oc26, od26, .func (PySem.W.fnOf "_law_near" "_law_near" (defArgs (stOf "_law_near")) (defBody (stOf "_law_near")) (defScope (stOf "_law_near")) .none kV26 dc26 pm26 an26 cd26 ct26), sl26⟩)
    (c26 : PySem.W.codeIn K cd26 "_law_near" = true) (k26 : PySem.W.keepIn K (.ref f26) = true)
    (a27 : PySem.W.nsIn K mainGlobals "law" = some (some (.ref f27)))
    (l27 : K.lookup f27 = some ⟨oc27, od27, .func (PySem.W.fnOf "law" "law" (defArgs (stOf "law")) (defBody (stOf "law")) (defScope (stOf "law")) .none kV27 dc27 pm27 an27 cd27 ct27), sl27⟩)
    (c27 : PySem.W.codeIn K cd27 "law" = true) (k27 : PySem.W.keepIn K (.ref f27) = true)
    {tk0_ : Tok}
    (q0 : PySem.W.nsIn K mainGlobals "LETTERS" = some (some (.str "abcdefghijklmnopqrstuvwxyz" tk0_)))
    {tk1_ : Tok}
    (q1 : PySem.W.nsIn K mainGlobals "LONGEST" = some (some (.int 8 tk1_)))
    {tt0_0 tt0_1 tt0_2 tt0_3 tt0_4 tt0_5 tt0_6 : Tok} {td0 : Addr} {tn0x : Nat}
    (tq0 : PySem.W.nsIn K mainGlobals "STEPS" = some (some (.ref td0)))
    (tl0 : K.lookup td0 = some ⟨.type "dict", none, .dict #[⟨PyData.keyHash w.params "go", .str "go" tt0_0, .ref f6⟩, ⟨PyData.keyHash w.params "get", .str "get" tt0_1, .ref f7⟩, ⟨PyData.keyHash w.params "lose", .str "lose" tt0_2, .ref f7⟩, ⟨PyData.keyHash w.params "double", .str "double" tt0_3, .ref f7⟩, ⟨PyData.keyHash w.params "tick", .str "tick" tt0_4, .ref f9⟩, ⟨PyData.keyHash w.params "tear", .str "tear" tt0_5, .ref f8⟩, ⟨PyData.keyHash w.params "fall", .str "fall" tt0_6, .ref f9⟩] tn0x, #[]⟩)
    (tw0 : (td0 == sysModules) = false)
    (z0 : PySem.W.nsIn K mainGlobals "len" = some none)
    (z1 : PySem.W.nsIn K mainGlobals "repr" = some none)
    (z2 : PySem.W.nsIn K mainGlobals "all" = some none)
    (z3 : PySem.W.nsIn K mainGlobals "tuple" = some none)
    (z4 : PySem.W.nsIn K mainGlobals "list" = some none)
    (z5 : PySem.W.nsIn K mainGlobals "ord" = some none)
    (z6 : PySem.W.nsIn K mainGlobals "range" = some none)
    (z7 : PySem.W.nsIn K mainGlobals "isinstance" = some none)
    (z8 : PySem.W.nsIn K mainGlobals "int" = some none)
    (z9 : PySem.W.nsIn K mainGlobals "bool" = some none)
    (z10 : PySem.W.nsIn K mainGlobals "str" = some none)
    : ModOk P w K mg pg K12.co bis fns dfs cts where
  hbi := fun x hx => by
    simp only [bis, List.mem_cons, List.not_mem_nil, or_false] at hx
    rcases hx with rfl | rfl | rfl | rfl | rfl | rfl | rfl | rfl | rfl | rfl | rfl
    · exact PySem.W.mg_none_of X G z0
    · exact PySem.W.mg_none_of X G z1
    · exact PySem.W.mg_none_of X G z2
    · exact PySem.W.mg_none_of X G z3
    · exact PySem.W.mg_none_of X G z4
    · exact PySem.W.mg_none_of X G z5
    · exact PySem.W.mg_none_of X G z6
    · exact PySem.W.mg_none_of X G z7
    · exact PySem.W.mg_none_of X G z8
    · exact PySem.W.mg_none_of X G z9
    · exact PySem.W.mg_none_of X G z10
  con := fun x d e => by
    have e : cons.lookup x = some d := e
    unfold cons at e
    rcases look_cons e with ⟨rfl, rfl⟩ | e
    · exact ⟨_, .str "abcdefghijklmnopqrstuvwxyz", PySem.W.mg_of X G q0, ⟨_, rfl⟩, fun H F => .str _⟩
    rcases look_cons e with ⟨rfl, rfl⟩ | e
    · exact ⟨_, .int 8, PySem.W.mg_of X G q1, ⟨_, rfl⟩, fun H F => .int _⟩
    cases e
  tb := fun p hp ne fs e => by
    simp only [dfs, List.mem_cons, List.not_mem_nil, or_false] at hp
    subst hp
    · cases e
      exact tabX_of [⟨"go", tt0_0, f6, "is_going"⟩, ⟨"get", tt0_1, f7, "is_handling"⟩, ⟨"lose", tt0_2, f7, "is_handling"⟩, ⟨"double", tt0_3, f7, "is_handling"⟩, ⟨"tick", tt0_4, f9, "is_bare"⟩, ⟨"tear", tt0_5, f8, "is_tearing"⟩, ⟨"fall", tt0_6, f9, "is_bare"⟩] (PySem.W.mg_of X G tq0) tl0 tw0 (fun r hr => by
        simp only [List.mem_cons, List.not_mem_nil, or_false] at hr
        rcases hr with rfl | rfl | rfl | rfl | rfl | rfl | rfl
        · exact PySem.W.mg_of X G a6
        · exact PySem.W.mg_of X G a7
        · exact PySem.W.mg_of X G a7
        · exact PySem.W.mg_of X G a7
        · exact PySem.W.mg_of X G a9
        · exact PySem.W.mg_of X G a8
        · exact PySem.W.mg_of X G a9)
  fn := fun x hx => by
    simp only [fns, List.mem_cons, List.not_mem_nil, or_false] at hx
    rcases hx with rfl | rfl | rfl | rfl | rfl | rfl | rfl | rfl | rfl | rfl | rfl | rfl | rfl | rfl | rfl | rfl | rfl | rfl | rfl | rfl | rfl | rfl | rfl | rfl | rfl | rfl | rfl
    · refine ⟨stOf "is_number", n_is_number, p_is_number, t_is_number, rfl, ⟨f1, _, funV_mk l1 c1 k1, PySem.W.mg_of X G a1, (fun_mk l1 c1 k1).binds (ps := p_is_number) fun _ _ _ _ _ _ us hl => match us, hl with | [_], _ => rfl, ?_⟩, c_is_number⟩
      exact (by
      intro p hp e
      simp only [dfs, List.mem_cons, List.not_mem_nil, or_false] at hp
      rcases hp with rfl
      · exact absurd e (by decide))
    · refine ⟨stOf "is_word", n_is_word, p_is_word, t_is_word, rfl, ⟨f2, _, funV_mk l2 c2 k2, PySem.W.mg_of X G a2, (fun_mk l2 c2 k2).binds (ps := p_is_word) fun _ _ _ _ _ _ us hl => match us, hl with | [_], _ => rfl, ?_⟩, c_is_word⟩
      exact (by
      intro p hp e
      simp only [dfs, List.mem_cons, List.not_mem_nil, or_false] at hp
      rcases hp with rfl
      · exact absurd e (by decide))
    · refine ⟨stOf "are_numbers", n_are_numbers, p_are_numbers, t_are_numbers, rfl, ⟨f3, _, funV_mk l3 c3 k3, PySem.W.mg_of X G a3, (fun_mk l3 c3 k3).binds (ps := p_are_numbers) fun _ _ _ _ _ _ us hl => match us, hl with | [_, _], _ => rfl, ?_⟩, c_are_numbers⟩
      exact (by
      intro p hp e
      simp only [dfs, List.mem_cons, List.not_mem_nil, or_false] at hp
      rcases hp with rfl
      · exact absurd e (by decide))
    · refine ⟨stOf "is_answer", n_is_answer, p_is_answer, t_is_answer, rfl, ⟨f4, _, funV_mk l4 c4 k4, PySem.W.mg_of X G a4, (fun_mk l4 c4 k4).binds (ps := p_is_answer) fun _ _ _ _ _ _ us hl => match us, hl with | [_], _ => rfl, ?_⟩, c_is_answer⟩
      exact (by
      intro p hp e
      simp only [dfs, List.mem_cons, List.not_mem_nil, or_false] at hp
      rcases hp with rfl
      · exact absurd e (by decide))
    · refine ⟨stOf "is_lane", n_is_lane, p_is_lane, t_is_lane, rfl, ⟨f5, _, funV_mk l5 c5 k5, PySem.W.mg_of X G a5, (fun_mk l5 c5 k5).binds (ps := p_is_lane) fun _ _ _ _ _ _ us hl => match us, hl with | [_], _ => rfl, ?_⟩, c_is_lane⟩
      exact (by
      intro p hp e
      simp only [dfs, List.mem_cons, List.not_mem_nil, or_false] at hp
      rcases hp with rfl
      · exact absurd e (by decide))
    · refine ⟨stOf "is_going", n_is_going, p_is_going, t_is_going, rfl, ⟨f6, _, funV_mk l6 c6 k6, PySem.W.mg_of X G a6, (fun_mk l6 c6 k6).binds (ps := p_is_going) fun _ _ _ _ _ _ us hl => match us, hl with | [_], _ => rfl, ?_⟩, c_is_going⟩
      exact (by
      intro p hp e
      simp only [dfs, List.mem_cons, List.not_mem_nil, or_false] at hp
      rcases hp with rfl
      · exact absurd e (by decide))
    · refine ⟨stOf "is_handling", n_is_handling, p_is_handling, t_is_handling, rfl, ⟨f7, _, funV_mk l7 c7 k7, PySem.W.mg_of X G a7, (fun_mk l7 c7 k7).binds (ps := p_is_handling) fun _ _ _ _ _ _ us hl => match us, hl with | [_], _ => rfl, ?_⟩, c_is_handling⟩
      exact (by
      intro p hp e
      simp only [dfs, List.mem_cons, List.not_mem_nil, or_false] at hp
      rcases hp with rfl
      · exact absurd e (by decide))
    · refine ⟨stOf "is_tearing", n_is_tearing, p_is_tearing, t_is_tearing, rfl, ⟨f8, _, funV_mk l8 c8 k8, PySem.W.mg_of X G a8, (fun_mk l8 c8 k8).binds (ps := p_is_tearing) fun _ _ _ _ _ _ us hl => match us, hl with | [_], _ => rfl, ?_⟩, c_is_tearing⟩
      exact (by
      intro p hp e
      simp only [dfs, List.mem_cons, List.not_mem_nil, or_false] at hp
      rcases hp with rfl
      · exact absurd e (by decide))
    · refine ⟨stOf "is_bare", n_is_bare, p_is_bare, t_is_bare, rfl, ⟨f9, _, funV_mk l9 c9 k9, PySem.W.mg_of X G a9, (fun_mk l9 c9 k9).binds (ps := p_is_bare) fun _ _ _ _ _ _ us hl => match us, hl with | [_], _ => rfl, ?_⟩, c_is_bare⟩
      exact (by
      intro p hp e
      simp only [dfs, List.mem_cons, List.not_mem_nil, or_false] at hp
      rcases hp with rfl
      · exact absurd e (by decide))
    · refine ⟨stOf "is_step", n_is_step, p_is_step, t_is_step, rfl, ⟨f10, _, funV_mk l10 c10 k10, PySem.W.mg_of X G a10, (fun_mk l10 c10 k10).binds (ps := p_is_step) fun _ _ _ _ _ _ us hl => match us, hl with | [_], _ => rfl, ?_⟩, c_is_step⟩
      exact (by
      intro p hp e
      simp only [dfs, List.mem_cons, List.not_mem_nil, or_false] at hp
      rcases hp with rfl
      · exact absurd e (by decide))
    · refine ⟨stOf "is_letter", n_is_letter, p_is_letter, t_is_letter, rfl, ⟨f11, _, funV_mk l11 c11 k11, PySem.W.mg_of X G a11, (fun_mk l11 c11 k11).binds (ps := p_is_letter) fun _ _ _ _ _ _ us hl => match us, hl with | [_], _ => rfl, ?_⟩, c_is_letter⟩
      exact (by
      intro p hp e
      simp only [dfs, List.mem_cons, List.not_mem_nil, or_false] at hp
      rcases hp with rfl
      · exact absurd e (by decide))
    · refine ⟨stOf "_law_feed", n_law_feed, p_law_feed, t_law_feed, rfl, ⟨f12, _, funV_mk l12 c12 k12, PySem.W.mg_of X G a12, (fun_mk l12 c12 k12).binds (ps := p_law_feed) fun _ _ _ _ _ _ us hl => match us, hl with | [_], _ => rfl, ?_⟩, c_law_feed⟩
      exact (by
      intro p hp e
      simp only [dfs, List.mem_cons, List.not_mem_nil, or_false] at hp
      rcases hp with rfl
      · exact absurd e (by decide))
    · refine ⟨stOf "_law_draw", n_law_draw, p_law_draw, t_law_draw, rfl, ⟨f13, _, funV_mk l13 c13 k13, PySem.W.mg_of X G a13, (fun_mk l13 c13 k13).binds (ps := p_law_draw) fun _ _ _ _ _ _ us hl => match us, hl with | [_, _], _ => rfl, ?_⟩, c_law_draw⟩
      exact (by
      intro p hp e
      simp only [dfs, List.mem_cons, List.not_mem_nil, or_false] at hp
      rcases hp with rfl
      · exact absurd e (by decide))
    · refine ⟨stOf "_law_after", n_law_after, p_law_after, t_law_after, rfl, ⟨f14, _, funV_mk l14 c14 k14, PySem.W.mg_of X G a14, (fun_mk l14 c14 k14).binds (ps := p_law_after) fun _ _ _ _ _ _ us hl => match us, hl with | [_], _ => rfl, ?_⟩, c_law_after⟩
      exact (by
      intro p hp e
      simp only [dfs, List.mem_cons, List.not_mem_nil, or_false] at hp
      rcases hp with rfl
      · exact absurd e (by decide))
    · refine ⟨stOf "_law_word", n_law_word, p_law_word, t_law_word, rfl, ⟨f15, _, funV_mk l15 c15 k15, PySem.W.mg_of X G a15, (fun_mk l15 c15 k15).binds (ps := p_law_word) fun _ _ _ _ _ _ us hl => match us, hl with | [_, _], _ => rfl, ?_⟩, c_law_word⟩
      exact (by
      intro p hp e
      simp only [dfs, List.mem_cons, List.not_mem_nil, or_false] at hp
      rcases hp with rfl
      · exact absurd e (by decide))
    · refine ⟨stOf "_law_bend", n_law_bend, p_law_bend, t_law_bend, rfl, ⟨f16, _, funV_mk l16 c16 k16, PySem.W.mg_of X G a16, (fun_mk l16 c16 k16).binds (ps := p_law_bend) fun _ _ _ _ _ _ us hl => match us, hl with | [_, _, _], _ => rfl, ?_⟩, c_law_bend⟩
      exact (by
      intro p hp e
      simp only [dfs, List.mem_cons, List.not_mem_nil, or_false] at hp
      rcases hp with rfl
      · exact absurd e (by decide))
    · refine ⟨stOf "_law_odd", n_law_odd, p_law_odd, t_law_odd, rfl, ⟨f17, _, funV_mk l17 c17 k17, PySem.W.mg_of X G a17, (fun_mk l17 c17 k17).binds (ps := p_law_odd) fun _ _ _ _ _ _ us hl => match us, hl with | [], _ => rfl, ?_⟩, c_law_odd⟩
      exact (by
      intro p hp e
      simp only [dfs, List.mem_cons, List.not_mem_nil, or_false] at hp
      rcases hp with rfl
      · exact absurd e (by decide))
    · refine ⟨stOf "_law_whole", n_law_whole, p_law_whole, t_law_whole, rfl, ⟨f18, _, funV_mk l18 c18 k18, PySem.W.mg_of X G a18, (fun_mk l18 c18 k18).binds (ps := p_law_whole) fun _ _ _ _ _ _ us hl => match us, hl with | [_], _ => rfl, ?_⟩, c_law_whole⟩
      exact (by
      intro p hp e
      simp only [dfs, List.mem_cons, List.not_mem_nil, or_false] at hp
      rcases hp with rfl
      · exact absurd e (by decide))
    · refine ⟨stOf "_law_worded", n_law_worded, p_law_worded, t_law_worded, rfl, ⟨f19, _, funV_mk l19 c19 k19, PySem.W.mg_of X G a19, (fun_mk l19 c19 k19).binds (ps := p_law_worded) fun _ _ _ _ _ _ us hl => match us, hl with | [_], _ => rfl, ?_⟩, c_law_worded⟩
      exact (by
      intro p hp e
      simp only [dfs, List.mem_cons, List.not_mem_nil, or_false] at hp
      rcases hp with rfl
      · exact absurd e (by decide))
    · refine ⟨stOf "_law_numbers", n_law_numbers, p_law_numbers, t_law_numbers, rfl, ⟨f20, _, funV_mk l20 c20 k20, PySem.W.mg_of X G a20, (fun_mk l20 c20 k20).binds (ps := p_law_numbers) fun _ _ _ _ _ _ us hl => match us, hl with | [_, _], _ => rfl, ?_⟩, c_law_numbers⟩
      exact (by
      intro p hp e
      simp only [dfs, List.mem_cons, List.not_mem_nil, or_false] at hp
      rcases hp with rfl
      · exact absurd e (by decide))
    · refine ⟨stOf "_law_answered", n_law_answered, p_law_answered, t_law_answered, rfl, ⟨f21, _, funV_mk l21 c21 k21, PySem.W.mg_of X G a21, (fun_mk l21 c21 k21).binds (ps := p_law_answered) fun _ _ _ _ _ _ us hl => match us, hl with | [_], _ => rfl, ?_⟩, c_law_answered⟩
      exact (by
      intro p hp e
      simp only [dfs, List.mem_cons, List.not_mem_nil, or_false] at hp
      rcases hp with rfl
      · exact absurd e (by decide))
    · refine ⟨stOf "_law_stepped", n_law_stepped, p_law_stepped, t_law_stepped, rfl, ⟨f22, _, funV_mk l22 c22 k22, PySem.W.mg_of X G a22, (fun_mk l22 c22 k22).binds (ps := p_law_stepped) fun _ _ _ _ _ _ us hl => match us, hl with | [_], _ => rfl, ?_⟩, c_law_stepped⟩
      exact (by
      intro p hp e
      simp only [dfs, List.mem_cons, List.not_mem_nil, or_false] at hp
      rcases hp with rfl
      · exact absurd e (by decide))
    · refine ⟨stOf "_law_lettered", n_law_lettered, p_law_lettered, t_law_lettered, rfl, ⟨f23, _, funV_mk l23 c23 k23, PySem.W.mg_of X G a23, (fun_mk l23 c23 k23).binds (ps := p_law_lettered) fun _ _ _ _ _ _ us hl => match us, hl with | [_], _ => rfl, ?_⟩, c_law_lettered⟩
      exact (by
      intro p hp e
      simp only [dfs, List.mem_cons, List.not_mem_nil, or_false] at hp
      rcases hp with rfl
      · exact absurd e (by decide))
    · refine ⟨stOf "_law_thing", n_law_thing, p_law_thing, t_law_thing, rfl, ⟨f24, _, funV_mk l24 c24 k24, PySem.W.mg_of X G a24, (fun_mk l24 c24 k24).binds (ps := p_law_thing) fun _ _ _ _ _ _ us hl => match us, hl with | [_], _ => rfl, ?_⟩, c_law_thing⟩
      exact (by
      intro p hp e
      simp only [dfs, List.mem_cons, List.not_mem_nil, or_false] at hp
      rcases hp with rfl
      · exact absurd e (by decide))
    · refine ⟨stOf "_law_fixed", n_law_fixed, p_law_fixed, t_law_fixed, rfl, ⟨f25, _, funV_mk l25 c25 k25, PySem.W.mg_of X G a25, (fun_mk l25 c25 k25).binds (ps := p_law_fixed) fun _ _ _ _ _ _ us hl => match us, hl with | [], _ => rfl, ?_⟩, c_law_fixed⟩
      exact (by
      intro p hp e
      simp only [dfs, List.mem_cons, List.not_mem_nil, or_false] at hp
      rcases hp with rfl
      · exact absurd e (by decide))
    · refine ⟨stOf "_law_near", n_law_near, p_law_near, t_law_near, rfl, ⟨f26, _, funV_mk l26 c26 k26, PySem.W.mg_of X G a26, (fun_mk l26 c26 k26).binds (ps := p_law_near) fun _ _ _ _ _ _ us hl => match us, hl with | [_, _], _ => rfl, ?_⟩, c_law_near⟩
      exact (by
      intro p hp e
      simp only [dfs, List.mem_cons, List.not_mem_nil, or_false] at hp
      rcases hp with rfl
      · exact absurd e (by decide))
    · refine ⟨stOf "law", n_law, p_law, t_law, rfl, ⟨f27, _, funV_mk l27 c27 k27, PySem.W.mg_of X G a27, (fun_mk l27 c27 k27).binds (ps := p_law) fun _ _ _ _ _ _ us hl => match us, hl with | [_], _ => rfl, ?_⟩, c_law⟩
      exact (by
      intro p hp e
      simp only [dfs, List.mem_cons, List.not_mem_nil, or_false] at hp
      rcases hp with rfl
      · exact absurd e (by decide))
  cls := fun base => ⟨(fun ci h => nomatch h), (fun ci h => nomatch h), (fun ci h => nomatch h), (fun ci h => nomatch h)⟩
end K12

open PySem PySem.W PyProof.Rows in
set_option maxHeartbeats 0 in
theorem PySem.Challenge.cw_twicecalls_k12_steps_and_letters_holds : PySem.Challenge.rw_twicecalls_k12_steps_and_letters.Holds := by
  w_on; o_law; k_head; (case hw => w_witness2)
  k_fill
  refine Mi.walk_ofG (l := PySem.Challenge.rw_twicecalls_k12_steps_and_letters) (k := 30) (n := 63) (Pg := K12.pg) (co := K12.co) (bi := K12.bis) (fs := K12.fns) (df := K12.dfs) (ct := K12.cts) rfl (by decide) rfl rfl (by decide +kernel) ⟨rfl, by decide, by decide⟩ (fun w h Y => PySem.W.kIn_of Y) ?F K12.law_ok
  case F =>
    intro w mg h KX G
    refine' K12.all_mk KX G ?a1 ?l1 ?c1 ?k1 ?a2 ?l2 ?c2 ?k2 ?a3 ?l3 ?c3 ?k3 ?a4 ?l4 ?c4 ?k4 ?a5 ?l5 ?c5 ?k5 ?a6 ?l6 ?c6 ?k6 ?a7 ?l7 ?c7 ?k7 ?a8 ?l8 ?c8 ?k8 ?a9 ?l9 ?c9 ?k9 ?a10 ?l10 ?c10 ?k10 ?a11 ?l11 ?c11 ?k11 ?a12 ?l12 ?c12 ?k12 ?a13 ?l13 ?c13 ?k13 ?a14 ?l14 ?c14 ?k14 ?a15 ?l15 ?c15 ?k15 ?a16 ?l16 ?c16 ?k16 ?a17 ?l17 ?c17 ?k17 ?a18 ?l18 ?c18 ?k18 ?a19 ?l19 ?c19 ?k19 ?a20 ?l20 ?c20 ?k20 ?a21 ?l21 ?c21 ?k21 ?a22 ?l22 ?c22 ?k22 ?a23 ?l23 ?c23 ?k23 ?a24 ?l24 ?c24 ?k24 ?a25 ?l25 ?c25 ?k25 ?a26 ?l26 ?c26 ?k26 ?a27 ?l27 ?c27 ?k27 ?q0 ?q1 ?tq0 ?tl0 ?tw0 ?z0 ?z1 ?z2 ?z3 ?z4 ?z5 ?z6 ?z7 ?z8 ?z9 ?z10
    (case a1 => k_is)
    (case l1 => k_is)
    (case c1 => k_is)
    (case k1 => k_is)
    (case a2 => k_is)
    (case l2 => k_is)
    (case c2 => k_is)
    (case k2 => k_is)
    (case a3 => k_is)
    (case l3 => k_is)
    (case c3 => k_is)
    (case k3 => k_is)
    (case a4 => k_is)
    (case l4 => k_is)
    (case c4 => k_is)
    (case k4 => k_is)
    (case a5 => k_is)
    (case l5 => k_is)
    (case c5 => k_is)
    (case k5 => k_is)
    (case a6 => k_is)
    (case l6 => k_is)
    (case c6 => k_is)
    (case k6 => k_is)
    (case a7 => k_is)
    (case l7 => k_is)
    (case c7 => k_is)
    (case k7 => k_is)
    (case a8 => k_is)
    (case l8 => k_is)
    (case c8 => k_is)
    (case k8 => k_is)
    (case a9 => k_is)
    (case l9 => k_is)
    (case c9 => k_is)
    (case k9 => k_is)
    (case a10 => k_is)
    (case l10 => k_is)
    (case c10 => k_is)
    (case k10 => k_is)
    (case a11 => k_is)
    (case l11 => k_is)
    (case c11 => k_is)
    (case k11 => k_is)
    (case a12 => k_is)
    (case l12 => k_is)
    (case c12 => k_is)
    (case k12 => k_is)
    (case a13 => k_is)
    (case l13 => k_is)
    (case c13 => k_is)
    (case k13 => k_is)
    (case a14 => k_is)
    (case l14 => k_is)
    (case c14 => k_is)
    (case k14 => k_is)
    (case a15 => k_is)
    (case l15 => k_is)
    (case c15 => k_is)
    (case k15 => k_is)
    (case a16 => k_is)
    (case l16 => k_is)
    (case c16 => k_is)
    (case k16 => k_is)
    (case a17 => k_is)
    (case l17 => k_is)
    (case c17 => k_is)
    (case k17 => k_is)
    (case a18 => k_is)
    (case l18 => k_is)
    (case c18 => k_is)
    (case k18 => k_is)
    (case a19 => k_is)
    (case l19 => k_is)
    (case c19 => k_is)
    (case k19 => k_is)
    (case a20 => k_is)
    (case l20 => k_is)
    (case c20 => k_is)
    (case k20 => k_is)
    (case a21 => k_is)
    (case l21 => k_is)
    (case c21 => k_is)
    (case k21 => k_is)
    (case a22 => k_is)
    (case l22 => k_is)
    (case c22 => k_is)
    (case k22 => k_is)
    (case a23 => k_is)
    (case l23 => k_is)
    (case c23 => k_is)
    (case k23 => k_is)
    (case a24 => k_is)
    (case l24 => k_is)
    (case c24 => k_is)
    (case k24 => k_is)
    (case a25 => k_is)
    (case l25 => k_is)
    (case c25 => k_is)
    (case k25 => k_is)
    (case a26 => k_is)
    (case l26 => k_is)
    (case c26 => k_is)
    (case k26 => k_is)
    (case a27 => k_is)
    (case l27 => k_is)
    (case c27 => k_is)
    (case k27 => k_is)
    (case q0 => k_is)
    (case q1 => k_is)
    (case tq0 => k_is)
    (case tl0 => k_is)
    (case tw0 => rfl)
    (case z0 => k_is)
    (case z1 => k_is)
    (case z2 => k_is)
    (case z3 => k_is)
    (case z4 => k_is)
    (case z5 => k_is)
    (case z6 => k_is)
    (case z7 => k_is)
    (case z8 => k_is)
    (case z9 => k_is)
    (case z10 => k_is)
