import PyProof.Rows.All
import Wide.All
import OpenK.AllK
import Wide.FinOn
import PySem.Str
import PySem.PyData
import PyProof.P3Statements
import PyProof.Rows.Globals
import PyProof.ListOps
import PyProof.Rows.RuleB_small
import PyProof.Rows.RuleB_floordiv
import PyProof.Rows.RuleB_mod
import PyProof.Rows.RuleN_abs
import PyProof.PureInt
import PyProof.FitsBits
import PyProof.WalkInts
import PyProof.Rows.ListMul
import PyProof.Rows.StrTemp
import PyProof.P3Eq
import PyProof.NeData
import PyProof.SliceMore
import PyProof.StrOps2
import PyProof.StrCalls3
import PyProof.Rows.Method
import PyProof.StrCalls2
import PyProof.SliceStr2
import PyProof.StrWalks
import PyProof.CallFns
import PyProof.CallStr
import PyProof.Rows.ReprOcc
import KE.KIntText
import PyProof.Rows.Exc
import PyProof.TypeOfCall
import PyProof.IsRules
import PyProof.CompFree
import PyProof.TupleOfSeq
import KE.KItem
import PyProof.CompUse
import OpenK.KRaise
import PySem.Challenge.RW_pd_limbs_1_08
set_option Elab.async false
set_option maxHeartbeats 4000000
set_option linter.unusedSimpArgs false
set_option linter.unusedVariables false
/-! The pure layer: data, mini syntax, evaluator, weakest preconditions. -/
namespace Lim
open PySem

set_option genSizeOf false
inductive D where
  | none
  | bool (b : Bool)
  | int (i : Int)
  | str (s : Str)
  | ilist (ns : List Int)
  | list (xs : List D)
  | tup (xs : List D)

inductive Exc where
  | value | zero
  deriving DecidableEq

inductive Res (α : Type) where
  | stuck
  | exc (c : Exc)
  | ok (a : α)

noncomputable def Res.bind {α β : Type} : Res α → (α → Res β) → Res β
  | .stuck, _ => .stuck
  | .exc c, _ => .exc c
  | .ok a, f => f a

noncomputable def Res.wp {α : Type} : Res α → (α → Prop) → (Exc → Prop) → Prop
  | .stuck, _, _ => False
  | .exc c, _, X => X c
  | .ok a, Q, _ => Q a

set_option genInjectivity false
inductive Bop where
  | add | sub | mul | fdiv | mod | pow | shl
  deriving DecidableEq
inductive Cop where
  | lt | le | gt | ge | eq | ne | notIn
  deriving DecidableEq

set_option genSizeOf true
inductive E where
  | var (i : Nat)
  | glob (g : Nat)
  | none
  | bool (b : Bool)
  | int (n : Int)
  | str (s : Str)
  | bin (op : Bop) (a b : E)
  | neg (a : E)
  | not (a : E)
  | cmp (op : Cop) (a b : E)
  | isInt (a : E)
  | and (a b : E)
  | or3 (a b c : E)
  | ite (c a b : E)
  | item (a i : E)
  | itemV (k : Nat) (i : E)
  | slice (a : E) (lo hi : Option E)
  | len (a : E)
  | lenV (k : Nat)
  | max (a b : E)
  | abs (a : E)
  | strOf (a : E)
  | intOf (a : E)
  | ord (a : E)
  | zfill4 (a : E)
  | joinE (a : E)
  | bot
  | tupMap (f : Nat) (a : E)
  | call (f : Nat) (args : List E)
  | tup (es : List E)
  | list (es : List E)

set_option genSizeOf false
set_option genInjectivity true
/-- a local: not set, frozen data, or a list that this frame alone holds -/
inductive L where
  | unset
  | val (d : D)
  | own (d : D)
  | pin (a : Nat)

set_option genInjectivity false
inductive It where
  | range1 (a : E)
  | range3 (a b : E) (st : Int)
  | seq (e : E)

inductive S where
  | freeze (i : Nat)
  | assign (i : Nat) (e : E)
  | assignOwn (i : Nat) (e : E)
  | aug (i : Nat) (op : Bop) (e : E)
  | append (i : Nat) (e : E)
  | setitem (i : Nat) (k e : E)
  | unpack (is : List Nat) (e : E)
  | ite (c : E) (a b : List S)
  | while (c : E) (b : List S)
  | for (i : Nat) (it : It) (b : List S)
  | ret (e : E)
  | raise (c : Exc)
  | expr (e : E)
  | try (b : List S) (c : Exc) (h : List S)
  | cont
  | assignMap (i f k : Nat)

set_option genInjectivity true
inductive Fl where
  | next | cont | ret (d : D) | exc (c : Exc)

set_option genSizeOf true
mutual
noncomputable def toPy : D → PyData
  | .none => .none
  | .bool b => .bool b
  | .int i => .int i
  | .str s => .str s
  | .ilist ns => .list (ns.map .int)
  | .list xs => .list (toPys xs)
  | .tup xs => .tuple (toPys xs)
noncomputable def toPys : List D → List PyData
  | [] => []
  | x :: r => toPy x :: toPys r
end

mutual
noncomputable def dep : D → Nat
  | .none => 0
  | .bool _ => 0
  | .int _ => 0
  | .str _ => 0
  | .ilist _ => 1
  | .list xs => deps xs + 1
  | .tup xs => deps xs + 1
noncomputable def deps : List D → Nat
  | [] => 0
  | x :: r => Nat.max (dep x) (deps r)
end

/-- the size that the layer allows lists and texts -/
noncomputable def LIM : Nat := 1000000
/-- the size of a factor -/
noncomputable def FAC : Nat := 10000000000000000000000000000000000000000000000000000000000000000000000

noncomputable def allInts : List D → Option (List Int)
  | [] => some []
  | .int i :: r => (allInts r).map (i :: ·)
  | _ => Option.none
noncomputable def mkList (ds : List D) : D := match allInts ds with
  | some ns => .ilist ns
  | Option.none => .list ds

/-- texts as lists of signs -/
noncomputable def mkS (l : List Nat) : Str := ⟨l.toArray⟩
noncomputable def decN (n : Nat) : List Nat := (Nat.toDigits 10 n).map Char.toNat
abbrev isDig (c : Nat) : Prop := 48 ≤ c ∧ c ≤ 57
noncomputable def digV (cs : List Nat) : Nat := cs.foldl (fun acc c => acc * 10 + (c - 48)) 0
noncomputable def allStrs : List D → Option (List Str)
  | [] => some []
  | .str i :: r => (allStrs r).map (i :: ·)
  | _ => Option.none
noncomputable def cats : List Str → List Nat
  | [] => []
  | x :: r => x.cps.toList ++ cats r

noncomputable def rep {α : Type} (xs : List α) : Nat → List α
  | 0 => []
  | n + 1 => xs ++ rep xs n

/-- Python's clamp of a slice bound -/
noncomputable def clip (n : Nat) (i : Int) : Nat := (max 0 (min (if i < 0 then i + n else i) n)).toNat

noncomputable def sliceL {α : Type} (xs : List α) (lo hi : Option Int) : List α :=
  (xs.drop (lo.elim 0 (clip xs.length))).take (hi.elim xs.length (clip xs.length) - lo.elim 0 (clip xs.length))

noncomputable def intsD (f : Int → Int → Res D) (x y : D) : Res D := match x with
  | .int a => (match y with | .int b => f a b | _ => .stuck)
  | _ => .stuck
theorem intsD_wp {f : Int → Int → Res D} {x y : D} {Q : D → Prop} {X : Exc → Prop} (h : (intsD f x y).wp Q X) : ∃ a b, x = .int a ∧ y = .int b ∧ (f a b).wp Q X := by
  cases x <;> first | exact h.elim | skip
  cases y <;> first | exact h.elim | skip
  exact ⟨_, _, rfl, rfl, h⟩
noncomputable def addD (x y : D) : Res D := match x with
  | .int a => (match y with | .int b => .ok (.int (a + b)) | _ => .stuck)
  | .ilist a => (match y with | .ilist b => if a.length + b.length ≤ LIM then .ok (.ilist (a ++ b)) else .stuck | _ => .stuck)
  | .str a => (match y with | .str b => if a.cps.size + b.cps.size ≤ LIM then .ok (.str (a ++ b)) else .stuck | _ => .stuck)
  | _ => .stuck
noncomputable def mulD (x y : D) : Res D := match y with
  | .int k => (match x with
    | .int a => if a.natAbs ≤ FAC ∧ k.natAbs ≤ FAC then .ok (.int (a * k)) else .stuck
    | .ilist a => if 0 ≤ k ∧ k ≤ LIM ∧ a.length * k.toNat ≤ LIM then .ok (.ilist (rep a k.toNat)) else .stuck
    | .str a => if 0 ≤ k ∧ k ≤ LIM ∧ a.cps.size * k.toNat ≤ LIM then .ok (.str ⟨(rep a.cps.toList k.toNat).toArray⟩) else .stuck
    | _ => .stuck)
  | _ => .stuck
noncomputable def binop : Bop → D → D → Res D
  | .add => addD
  | .sub => intsD fun a b => .ok (.int (a - b))
  | .mul => mulD
  | .fdiv => intsD fun a b => if b ≠ 0 ∧ b.natAbs ≤ FAC then .ok (.int (a.fdiv b)) else .stuck
  | .mod => intsD fun a b => if b ≠ 0 then .ok (.int (a.fmod b)) else .stuck
  | .pow => intsD fun a b => if 0 ≤ b ∧ b ≤ 1000 ∧ a.natAbs < 18446744073709551616 then .ok (.int (a ^ b.toNat)) else .stuck
  | .shl => intsD fun a b => if 0 ≤ b ∧ b ≤ 1000 ∧ a.natAbs < 18446744073709551616 then .ok (.int (a * 2 ^ b.toNat)) else .stuck

noncomputable def notInD (x y : D) : Res D := match x with
  | .str a => (match y with
    | .str b => (match a.cps.toList with
      | [c] => if b = Str.ofString "0123456789" ∧ c < 64 then .ok (.bool (!decide (48 ≤ c ∧ c ≤ 57))) else .stuck
      | _ => .stuck)
    | _ => .stuck)
  | _ => .stuck
noncomputable def cmpop : Cop → D → D → Res D
  | .lt => intsD fun a b => .ok (.bool (decide (a < b)))
  | .le => intsD fun a b => .ok (.bool (decide (a ≤ b)))
  | .gt => intsD fun a b => .ok (.bool (decide (b < a)))
  | .ge => intsD fun a b => .ok (.bool (decide (b ≤ a)))
  | .eq => fun x y => if dep x ≤ 20 then .ok (.bool (PyData.eqv (toPy x) (toPy y))) else .stuck
  | .ne => fun x y => if dep x ≤ 20 then .ok (.bool (!PyData.eqv (toPy x) (toPy y))) else .stuck
  | .notIn => notInD

noncomputable def optR {α : Type} (o : Option α) (f : α → D) : Res D := match o with | some a => .ok (f a) | Option.none => .stuck
theorem optR_wp {α : Type} {o : Option α} {f : α → D} {Q : D → Prop} {X : Exc → Prop} (h : (optR o f).wp Q X) : ∃ a, o = some a ∧ Q (f a) := by
  cases o <;> first | exact h.elim | exact ⟨_, rfl, h⟩
noncomputable def getitem (x y : D) : Res D := match y with
  | .int i => if 0 ≤ i then (match x with
    | .ilist ns => optR ns[i.toNat]? .int
    | .list xs => optR xs[i.toNat]? id
    | .tup xs => optR xs[i.toNat]? id
    | .str x => optR x.cps[i.toNat]? fun c => .str ⟨#[c]⟩
    | _ => .stuck) else .stuck
  | _ => .stuck

noncomputable def lenOf : D → Res D
  | .ilist ns => .ok (.int ns.length)
  | .list xs => .ok (.int xs.length)
  | .tup xs => .ok (.int xs.length)
  | .str x => .ok (.int x.cps.size)
  | _ => .stuck

noncomputable def partOf : D → Res (Option Int)
  | .int i => .ok (some i)
  | _ => .stuck

noncomputable def sliceD : D → Option Int → Option Int → Res D
  | .ilist ns, lo, hi => .ok (.ilist (sliceL ns lo hi))
  | .list xs, lo, hi => .ok (.list (sliceL xs lo hi))
  | .str x, lo, hi => .ok (.str (mkS (sliceL x.cps.toList lo hi)))
  | _, _, _ => .stuck

noncomputable def isIntD : D → Bool
  | .int _ => true
  | _ => false

noncomputable def varD (x : Option L) : Res D := match x with | some (.val d) => .ok d | _ => .stuck
noncomputable def globD (x : Option D) : Res D := match x with | some d => .ok d | _ => .stuck
noncomputable def heldD (x : Option L) : Res D := match x with | some (.val d) => .ok d | some (.own d) => .ok d | _ => .stuck
noncomputable def negD (x : D) : Res D := match x with | .int i => .ok (.int (-i)) | _ => .stuck
noncomputable def tyD (x : D) : Res D := match x with | .int _ => .ok (.bool true) | _ => .stuck
noncomputable def maxD (x y : D) : Res D := match x, y with | .int i, .int j => .ok (.int (if i < j then j else i)) | _, _ => .stuck
noncomputable def absD (x : D) : Res D := match x with | .int i => .ok (.int (if i < 0 then -i else i)) | _ => .stuck
noncomputable def seqD (d : D) : Res (List D) := match d with
    | .ilist ns => .ok (ns.map .int)
    | .list xs => .ok xs
    | .tup xs => .ok xs
    | .str x => .ok (x.cps.toList.map fun c => .str ⟨#[c]⟩)
    | _ => .stuck
noncomputable def strD (x : D) : Res D := match x with | .int i => if 0 ≤ i ∧ i.toNat < 10 ^ 100 then .ok (.str (mkS (decN i.toNat))) else .stuck | _ => .stuck
noncomputable def intD (x : D) : Res D := match x with | .str s => if s.cps.size ≤ 640 ∧ s.cps.toList ≠ [] ∧ ∀ c ∈ s.cps.toList, isDig c then .ok (.int (digV s.cps.toList)) else .stuck | _ => .stuck
noncomputable def zfillD (x : D) : Res D := match x with | .str s => if s.cps.size ≤ 4 ∧ ∀ c ∈ s.cps.toList, isDig c then .ok (.str (mkS (List.replicate (4 - s.cps.size) 48 ++ s.cps.toList))) else .stuck | _ => .stuck
noncomputable def ordL (l : List Nat) : Res D := match l with | [] => .stuck | c :: r => (match r with | [] => .ok (.int c) | _ :: _ => .stuck)
noncomputable def ordD (x : D) : Res D := match x with | .str s => ordL s.cps.toList | _ => .stuck
noncomputable def joinD (x : D) : Res D := match x with
  | .list ds => (match allStrs ds with | some ts => if (cats ts).length ≤ LIM then .ok (.str (mkS (cats ts))) else .stuck | Option.none => .stuck)
  | _ => .stuck
theorem varD_wp {x : Option L} {Q : D → Prop} {X : Exc → Prop} (h : (varD x).wp Q X) : ∃ d, x = some (.val d) ∧ Q d := by
  rcases x with _ | (_ | d | d | d) <;> first | exact h.elim | exact ⟨d, rfl, h⟩
theorem globD_wp {x : Option D} {Q : D → Prop} {X : Exc → Prop} (h : (globD x).wp Q X) : ∃ d, x = some d ∧ Q d := by
  rcases x with _ | d <;> first | exact h.elim | exact ⟨d, rfl, h⟩
theorem heldD_wp {x : Option L} {Q : D → Prop} {X : Exc → Prop} (h : (heldD x).wp Q X) : (∃ d, x = some (.val d) ∧ Q d) ∨ ∃ d, x = some (.own d) ∧ Q d := by
  rcases x with _ | (_ | d | d | d) <;> first | exact h.elim | exact .inl ⟨d, rfl, h⟩ | exact .inr ⟨d, rfl, h⟩
noncomputable def Res.asBool (r : Res D) (f : Bool → Res D) : Res D := r.bind fun d => match d with | .bool b => f b | _ => .stuck

noncomputable def tupD (x : D) : Res D := match x with
  | .ilist ns => .ok (.tup (ns.map .int))
  | .list xs => .ok (.tup xs)
  | _ => .stuck
/-- a def over the items, one behind the other; no exceptions -/
noncomputable def mapR (F : Nat → List D → Res D) (f : Nat) : List D → Res (List D)
  | [] => .ok []
  | d :: r => match F f [d] with
    | .ok x => (mapR F f r).bind fun xs => .ok (x :: xs)
    | _ => .stuck
noncomputable def mapD (F : Nat → List D → Res D) (f : Nat) (x : D) : Res D := (seqD x).bind fun ds => if ds.length ≤ LIM then (mapR F f ds).bind fun xs => .ok (mkList xs) else .stuck
section
variable (F : Nat → List D → Res D) (G : Nat → Option D)
mutual
noncomputable def evalE (σ : List L) : E → Res D
  | .var i => varD (σ[i]?)
  | .glob g => globD (G g)
  | .none => .ok .none
  | .bool b => .ok (.bool b)
  | .int n => .ok (.int n)
  | .str s => .ok (.str s)
  | .bin op a b => (evalE σ a).bind fun x => (evalE σ b).bind fun y => binop op x y
  | .neg a => (evalE σ a).bind negD
  | .not a => (evalE σ a).asBool fun b => .ok (.bool !b)
  | .cmp op a b => (evalE σ a).bind fun x => (evalE σ b).bind fun y => cmpop op x y
  | .isInt a => (evalE σ a).bind tyD
  | .and a b => (evalE σ a).asBool fun x => if x then (evalE σ b).asBool fun y => .ok (.bool y) else .ok (.bool false)
  | .or3 a b c => (evalE σ a).asBool fun x => if x then .ok (.bool true) else (evalE σ b).asBool fun y => if y then .ok (.bool true) else (evalE σ c).asBool fun z => .ok (.bool z)
  | .ite c a b => (evalE σ c).asBool fun x => if x then evalE σ a else evalE σ b
  | .item a i => (evalE σ a).bind fun x => (evalE σ i).bind fun y => getitem x y
  | .itemV k i => (heldD (σ[k]?)).bind fun x => (evalE σ i).bind fun y => getitem x y
  | .slice a lo hi => (evalE σ a).bind fun x => (evalO σ lo).bind fun l => (evalO σ hi).bind fun h => sliceD x l h
  | .len a => (evalE σ a).bind lenOf
  | .lenV k => (heldD (σ[k]?)).bind lenOf
  | .max a b => (evalE σ a).bind fun x => (evalE σ b).bind fun y => maxD x y
  | .abs a => (evalE σ a).bind absD
  | .strOf a => (evalE σ a).bind strD
  | .intOf a => (evalE σ a).bind intD
  | .ord a => (evalE σ a).bind ordD
  | .zfill4 a => (evalE σ a).bind zfillD
  | .joinE a => (evalE σ a).bind joinD
  | .bot => .stuck
  | .tupMap f a => (evalE σ a).bind fun d => (mapD F f d).bind tupD
  | .call f args => (evalEs σ args).bind fun ds => F f ds
  | .tup es => (evalEs σ es).bind fun ds => .ok (.tup ds)
  | .list es => (evalEs σ es).bind fun ds => .ok (mkList ds)
noncomputable def evalO (σ : List L) : Option E → Res (Option Int)
  | Option.none => .ok Option.none
  | some e => (evalE σ e).bind partOf
noncomputable def evalEs (σ : List L) : List E → Res (List D)
  | [] => .ok []
  | e :: r => (evalE σ e).bind fun d => (evalEs σ r).bind fun ds => .ok (d :: ds)
end

noncomputable def rangeD (a : Int) (n : Nat) (st : Int) : List D := (List.range n).map fun (k : Nat) => .int (a + (k : Int) * st)
noncomputable def asInt (r : Res D) (f : Int → Res (List D)) : Res (List D) := r.bind fun d => match d with | .int i => f i | _ => .stuck

noncomputable def evalIt (σ : List L) : It → Res (List D)
  | .range1 a => asInt (evalE F G σ a) fun n => if n.natAbs ≤ LIM then .ok (rangeD 0 n.toNat 1) else .stuck
  | .range3 a b st => asInt (evalE F G σ a) fun m => asInt (evalE F G σ b) fun n =>
      if st = -1 ∧ m.natAbs ≤ LIM ∧ n.natAbs ≤ LIM then .ok (rangeD m (m - n).toNat (-1)) else .stuck
  | .seq e => (evalE F G σ e).bind seqD

abbrev Post := Fl → List L → Prop

/-- the loop over the items that are left -/
noncomputable def forWp (body : List L → Post → Prop) (i : Nat) : List D → List L → Post → Prop
  | [], σ, Q => Q .next σ
  | v :: r, σ, Q => body (σ.set i (.val v)) fun fl σ' => match fl with
    | .next | .cont => forWp body i r σ' Q
    | .ret d => Q (.ret d) σ'
    | .exc c => Q (.exc c) σ'

/-! the shapes that statements ask for -/
noncomputable def onOwn (l : Option L) (k : D → Prop) : Prop := match l with | some (.own x) => k x | _ => False
noncomputable def onVal (l : Option L) (k : D → Prop) : Prop := match l with | some (.val x) => k x | _ => False
noncomputable def onFrz (l : Option L) (k : D → Prop) : Prop := match l with | some (.own x) => k x | some (.val x) => k x | _ => False
noncomputable def isOk {α : Type} (o : Option α) (k : α → Prop) : Prop := match o with | some a => k a | Option.none => False
noncomputable def atInt (d : D) (k : Int → Prop) : Prop := match d with | .int i => k i | _ => False
noncomputable def atTup (d : D) (k : List D → Prop) : Prop := match d with | .tup i => k i | _ => False
noncomputable def atList (d : D) (k : D → Prop) : Prop := match d with | .ilist a => k (.ilist a) | .list a => k (.list a) | _ => False
noncomputable def ofBool (b : Bool) (p q : Prop) : Prop := match b with | true => p | false => q
noncomputable def atBool (d : D) (p q : Prop) : Prop := match d with | .bool b => ofBool b p q | _ => False
noncomputable def augK (op : Bop) (p q : Prop) : Prop := match op with | .add => p | .sub => q | _ => False
theorem onOwn_inv {l : Option L} {k : D → Prop} (h : onOwn l k) : ∃ d, l = some (.own d) ∧ k d := by
  rcases l with _ | (_ | d | d | d) <;> first | exact h.elim | exact ⟨d, rfl, h⟩
theorem onVal_inv {l : Option L} {k : D → Prop} (h : onVal l k) : ∃ d, l = some (.val d) ∧ k d := by
  rcases l with _ | (_ | d | d | d) <;> first | exact h.elim | exact ⟨d, rfl, h⟩
theorem onFrz_inv {l : Option L} {k : D → Prop} (h : onFrz l k) : ∃ d, (l = some (.own d) ∨ l = some (.val d)) ∧ k d := by
  rcases l with _ | (_ | d | d | d) <;> first | exact h.elim | exact ⟨d, .inl rfl, h⟩ | exact ⟨d, .inr rfl, h⟩
theorem isOk_inv {α : Type} {o : Option α} {k : α → Prop} (h : isOk o k) : ∃ a, o = some a ∧ k a := by
  cases o <;> first | exact h.elim | exact ⟨_, rfl, h⟩
theorem atInt_inv {d : D} {k : Int → Prop} (h : atInt d k) : ∃ a, d = .int a ∧ k a := by
  cases d <;> first | exact h.elim | exact ⟨_, rfl, h⟩
theorem atTup_inv {d : D} {k : List D → Prop} (h : atTup d k) : ∃ a, d = .tup a ∧ k a := by
  cases d <;> first | exact h.elim | exact ⟨_, rfl, h⟩
theorem atBool_inv {d : D} {p q : Prop} (h : atBool d p q) : ∃ b, d = .bool b ∧ ofBool b p q := by
  cases d <;> first | exact h.elim | exact ⟨_, rfl, h⟩
theorem atList_mono {d : D} {k k' : D → Prop} (h : atList d k) (hk : ∀ x, k x → k' x) : atList d k' := by
  cases d <;> first | exact h.elim | exact hk _ h

noncomputable def whileWp (test : List L → Res D) (body : List L → Post → Prop) (σ : List L) (Q : Post) : Prop :=
  ∃ I : Nat → List L → Prop, (∃ n, I n σ) ∧ ∀ n σ, I n σ → (test σ).wp (fun d => atBool d (body σ fun fl σ' => match fl with
      | .next | .cont => ∃ m, m < n ∧ I m σ'
      | .ret d => Q (.ret d) σ'
      | .exc c => Q (.exc c) σ') (Q .next σ)) (fun c => Q (.exc c) σ)

noncomputable def asI (d : D) : Option Int := match d with | .int i => some i | _ => Option.none
noncomputable def appI (ns : List Int) (d : D) (o : Option Int) : Option D := match o with
  | some i => if ns.length ≤ LIM then some (.ilist (ns ++ [i])) else Option.none
  | Option.none => if ns.isEmpty then some (.list [d]) else Option.none
noncomputable def appendD (x d : D) : Option D := match x with
  | .ilist ns => appI ns d (asI d)
  | .list xs => if xs.length ≤ LIM then some (.list (xs ++ [d])) else Option.none
  | _ => Option.none

noncomputable def setD (x : D) (k : Int) (d : D) : Option D := match x with
  | .ilist ns => (match d with | .int i => if 0 ≤ k ∧ k < ns.length then some (.ilist (ns.set k.toNat i)) else Option.none | _ => Option.none)
  | _ => Option.none

noncomputable def unpackSet : List Nat → List D → List L → Option (List L)
  | [], [], σ => some σ
  | i :: is, d :: ds, σ => unpackSet is ds (σ.set i (.val d))
  | _, _, _ => Option.none

mutual
noncomputable def wpS : S → List L → Post → Prop
  | .freeze i, σ, Q => onFrz (σ[i]?) fun d => Q .next (σ.set i (.val d))
  | .assign i e, σ, Q => (evalE F G σ e).wp (fun d => Q .next (σ.set i (.val d))) (fun c => Q (.exc c) σ)
  | .assignOwn i e, σ, Q => (evalE F G σ e).wp (fun d => atList d fun x => Q .next (σ.set i (.own x))) (fun c => Q (.exc c) σ)
  | .aug i op e, σ, Q => onVal (σ[i]?) fun x => atInt x fun a => (evalE F G σ e).wp (fun d => atInt d fun b => augK op (Q .next (σ.set i (.val (.int (a + b))))) (Q .next (σ.set i (.val (.int (a - b)))))) (fun c => Q (.exc c) σ)
  | .append i e, σ, Q => onOwn (σ[i]?) fun x => (evalE F G σ e).wp (fun d => isOk (appendD x d) fun x' => Q .next (σ.set i (.own x'))) (fun c => Q (.exc c) σ)
  | .setitem i k e, σ, Q => onOwn (σ[i]?) fun x => (evalE F G σ e).wp (fun d => (evalE F G σ k).wp (fun kd => atInt kd fun j => isOk (setD x j d) fun x' => Q .next (σ.set i (.own x'))) (fun c => Q (.exc c) σ)) (fun c => Q (.exc c) σ)
  | .unpack is e, σ, Q => (evalE F G σ e).wp (fun d => atTup d fun ds => isOk (unpackSet is ds σ) fun σ' => Q .next σ') (fun c => Q (.exc c) σ)
  | .ite c a b, σ, Q => (evalE F G σ c).wp (fun d => atBool d (wpSs a σ Q) (wpSs b σ Q)) (fun c => Q (.exc c) σ)
  | .while c b, σ, Q => whileWp (fun σ => evalE F G σ c) (fun σ Q => wpSs b σ Q) σ Q
  | .for i it b, σ, Q => (evalIt F G σ it).wp (fun items => forWp (fun σ Q => wpSs b σ Q) i items σ Q) (fun c => Q (.exc c) σ)
  | .ret e, σ, Q => (evalE F G σ e).wp (fun d => Q (.ret d) σ) (fun c => Q (.exc c) σ)
  | .raise c, σ, Q => Q (.exc c) σ
  | .expr e, σ, Q => (evalE F G σ e).wp (fun _ => Q .next σ) (fun c => Q (.exc c) σ)
  | .try b c h, σ, Q => wpSs b σ fun fl σ' => match fl with
    | .exc x => x = c ∧ wpSs h σ' Q
    | .next => Q .next σ'
    | .cont => Q .cont σ'
    | .ret d => Q (.ret d) σ'
  | .cont, σ, Q => Q .cont σ
  | .assignMap i f k, σ, Q => onOwn (σ[k]?) fun x => (mapD F f x).wp (fun d => atList d fun y => Q .next (σ.set i (.own y))) (fun c => Q (.exc c) σ)
noncomputable def wpSs : List S → List L → Post → Prop
  | [], σ, Q => Q .next σ
  | s :: r, σ, Q => wpS s σ fun fl σ' => match fl with
    | .next => wpSs r σ' Q
    | .cont => Q .cont σ'
    | .ret d => Q (.ret d) σ'
    | .exc c => Q (.exc c) σ'
end
end

end Lim

/-! The relation between pure data and the model's heap; the frame's invariant. -/
namespace Lim
open PySem

/-- a part of a heap -/
abbrev Part := Addr → Option Obj

noncomputable def listO (vs : List Value) (n : Nat) : Obj := { cls := .type "list", data := .seq vs.toArray n }
noncomputable def tupO (vs : List Value) (n : Nat) : Obj := { cls := .type "tuple", data := .seq vs.toArray n }

noncomputable def AllV {α : Type} (R : α → Value → Prop) : List α → List Value → Prop
  | [], vs => vs = []
  | x :: r, vs => ∃ v vs', vs = v :: vs' ∧ R x v ∧ AllV R r vs'

noncomputable def IsI (n : Int) (v : Value) : Prop := ∃ t, v = .int n t

noncomputable def okS (x : Str) : Bool := x.cps.all (· < 0x110000)

mutual
noncomputable def Rep (P : Part) : D → Value → Prop
  | .none, v => v = .none
  | .bool b, v => v = .bool b
  | .int i, v => ∃ t, v = .int i t
  | .str x, v => (∃ t, v = .str x t) ∧ okS x = true ∧ x.cps.size ≤ LIM
  | .ilist ns, v => ∃ a vs n, v = .ref a ∧ P a = some (listO vs n) ∧ AllV IsI ns vs ∧ vs.length ≤ sizeLine
  | .list xs, v => ∃ a vs n, v = .ref a ∧ P a = some (listO vs n) ∧ Reps P xs vs ∧ vs.length ≤ sizeLine
  | .tup xs, v => ∃ a vs n, v = .ref a ∧ P a = some (tupO vs n) ∧ Reps P xs vs ∧ vs.length ≤ sizeLine
noncomputable def Reps (P : Part) : List D → List Value → Prop
  | [], vs => vs = []
  | x :: r, vs => ∃ v vs', vs = v :: vs' ∧ Rep P x v ∧ Reps P r vs'
end

theorem reps_all {P : Part} : ∀ {xs : List D} {vs : List Value}, Reps P xs vs ↔ AllV (Rep P) xs vs
  | [], vs => by simp [Reps, AllV]
  | x :: r, vs => by
    constructor
    · intro h; simp only [Reps] at h; obtain ⟨v, vs', e, h1, h2⟩ := h; exact ⟨v, vs', e, h1, reps_all.mp h2⟩
    · intro h; obtain ⟨v, vs', e, h1, h2⟩ := h; simp only [Reps]; exact ⟨v, vs', e, h1, reps_all.mpr h2⟩

section
variable {α : Type} {R R' : α → Value → Prop}
theorem AllV.length : ∀ {xs : List α} {vs : List Value}, AllV R xs vs → vs.length = xs.length
  | [], _, h => by simp [AllV] at h; simp [h]
  | _ :: _, _, ⟨_, _, e, _, h⟩ => by simp [e, AllV.length h]
theorem AllV.mono (hR : ∀ x v, R x v → R' x v) : ∀ {xs : List α} {vs : List Value}, AllV R xs vs → AllV R' xs vs
  | [], _, h => h
  | _ :: _, _, ⟨v, vs', e, h1, h2⟩ => ⟨v, vs', e, hR _ _ h1, AllV.mono hR h2⟩
theorem AllV.get : ∀ {xs : List α} {vs : List Value} {i : Nat} {x : α}, AllV R xs vs → xs[i]? = some x → ∃ v, vs[i]? = some v ∧ R x v
  | [], _, _, _, _, h => by simp at h
  | _ :: _, _, 0, _, ⟨v, vs', e, h1, _⟩, h => by simp at h; subst h; exact ⟨v, by simp [e], h1⟩
  | _ :: _, _, i + 1, _, ⟨v, vs', e, _, h2⟩, h => by
    simp at h; obtain ⟨w, h3, h4⟩ := AllV.get h2 h; exact ⟨w, by simp [e, h3], h4⟩
theorem AllV.append : ∀ {xs ys : List α} {vs ws : List Value}, AllV R xs vs → AllV R ys ws → AllV R (xs ++ ys) (vs ++ ws)
  | [], _, _, _, h, h' => by simp [AllV] at h; subst h; exact h'
  | _ :: _, _, _, _, ⟨v, vs', e, h1, h2⟩, h' => ⟨v, vs' ++ _, by simp [e], h1, AllV.append h2 h'⟩
theorem AllV.nil : AllV R [] [] := rfl
theorem AllV.cons {x : α} {xs : List α} {v : Value} {vs : List Value} (h : R x v) (h' : AllV R xs vs) : AllV R (x :: xs) (v :: vs) := ⟨v, vs, rfl, h, h'⟩
theorem AllV.take : ∀ {xs : List α} {vs : List Value} (k : Nat), AllV R xs vs → AllV R (xs.take k) (vs.take k)
  | _, _, 0, _ => by simp [AllV]
  | [], _, _ + 1, h => by simp [AllV] at h; simp [h, AllV]
  | _ :: _, _, k + 1, ⟨v, vs', e, h1, h2⟩ => ⟨v, vs'.take k, by simp [e], h1, AllV.take k h2⟩
theorem AllV.drop : ∀ {xs : List α} {vs : List Value} (k : Nat), AllV R xs vs → AllV R (xs.drop k) (vs.drop k)
  | _, _, 0, h => h
  | [], _, _ + 1, h => by simp [AllV] at h; simp [h, AllV]
  | _ :: _, _, k + 1, ⟨v, vs', e, h1, h2⟩ => by subst e; exact AllV.drop k h2
theorem AllV.set : ∀ {xs : List α} {vs : List Value} {k : Nat} {x : α} {v : Value}, AllV R xs vs → R x v → AllV R (xs.set k x) (vs.set k v)
  | [], _, _, _, _, h, _ => by simp [AllV] at h; simp [h, AllV]
  | _ :: _, _, 0, _, _, ⟨v, vs', e, _, h2⟩, h => ⟨_, vs', by simp [e], h, h2⟩
  | _ :: _, _, k + 1, _, _, ⟨v, vs', e, h1, h2⟩, h => ⟨v, vs'.set k _, by simp [e], h1, AllV.set h2 h⟩
theorem AllV.rep {xs : List α} {vs : List Value} (h : AllV R xs vs) : ∀ k, AllV R (Lim.rep xs k) (Lim.rep vs k)
  | 0 => rfl
  | k + 1 => AllV.append h (AllV.rep h k)
end

noncomputable def Sub (P P' : Part) : Prop := ∀ a o, P a = some o → P' a = some o
theorem Sub.refl (P : Part) : Sub P P := fun _ _ h => h
theorem Sub.trans {P P' P'' : Part} (h : Sub P P') (h' : Sub P' P'') : Sub P P'' := fun a o e => h' a o (h a o e)

mutual
theorem Rep.mono {P P' : Part} (hs : Sub P P') : ∀ {d : D} {v : Value}, Rep P d v → Rep P' d v
  | .none, _, h => h
  | .bool _, _, h => h
  | .int _, _, h => h
  | .str _, _, h => h
  | .ilist _, _, ⟨a, vs, n, e, h1, h2⟩ => ⟨a, vs, n, e, hs _ _ h1, h2⟩
  | .list _, _, ⟨a, vs, n, e, h1, h2, h3⟩ => ⟨a, vs, n, e, hs _ _ h1, Reps.mono hs h2, h3⟩
  | .tup _, _, ⟨a, vs, n, e, h1, h2, h3⟩ => ⟨a, vs, n, e, hs _ _ h1, Reps.mono hs h2, h3⟩
theorem Reps.mono {P P' : Part} (hs : Sub P P') : ∀ {ds : List D} {vs : List Value}, Reps P ds vs → Reps P' ds vs
  | [], _, h => h
  | _ :: _, _, ⟨v, vs', e, h1, h2⟩ => ⟨v, vs', e, Rep.mono hs h1, Reps.mono hs h2⟩
end

/-- what is kept: exactly, but a frame of the stack (Fr) up to its slots -/
noncomputable def Keep (Fr : List Addr) (K : Part) (h : Heap) : Prop :=
  ∀ a o, K a = some o → ∃ o', h.get? a = some o' ∧ (a ∉ Fr → o' = o) ∧ o'.cls = o.cls ∧ o'.dict = o.dict ∧ o'.data = o.data

theorem Keep.of_same {Fr : List Addr} {K : Part} {h h' : Heap} {L : Addr} (k : Keep Fr K h) (hs : Heap.SameBut L h h') (hL : K L = Option.none) : Keep Fr K h' := fun a o e => by
  obtain ⟨o', h1, h2⟩ := k a o e
  refine ⟨o', (hs.2 a (fun q => ?_)).trans h1, h2⟩
  rw [q, hL] at e; cases e
theorem Keep.of_keeps {Fr : List Addr} {K : Part} {h h' : Heap} (k : Keep Fr K h) (hs : ∀ b o, h.get? b = some o → h'.get? b = some o) : Keep Fr K h' := fun a o e => by
  obtain ⟨o', h1, h2⟩ := k a o e
  exact ⟨o', hs _ _ h1, h2⟩

noncomputable def isSeq (o : Obj) : Prop := ∃ vs n, o.data = .seq vs n
noncomputable def In (P : Part) (h : Heap) : Prop := ∀ a o, P a = some o → h.get? a = some o ∧ isSeq o
theorem In.of_same {P : Part} {h h' : Heap} {L : Addr} (k : In P h) (hs : Heap.SameBut L h h') (hL : P L = Option.none) : In P h' := fun a o e =>
  ⟨(hs.2 a (fun q => by rw [q, hL] at e; cases e)).trans (k a o e).1, (k a o e).2⟩
theorem In.of_keeps {P : Part} {h h' : Heap} (k : In P h) (hs : ∀ b o, h.get? b = some o → h'.get? b = some o) : In P h' := fun a o e => ⟨hs _ _ (k a o e).1, (k a o e).2⟩
theorem In.size {P : Part} {h : Heap} (k : In P h) : P h.objs.size = Option.none := by
  cases e : P h.objs.size with
  | none => rfl
  | some o => exact absurd (Heap.lt_size (k _ _ e).1) (Nat.lt_irrefl _)
theorem Keep.size {Fr : List Addr} {K : Part} {h : Heap} (k : Keep Fr K h) : K h.objs.size = Option.none := by
  cases e : K h.objs.size with
  | none => rfl
  | some o => obtain ⟨o', h1, _⟩ := k _ _ e; exact absurd (Heap.lt_size h1) (Nat.lt_irrefl _)

/-- a list that the frame alone holds -/
noncomputable def OwnAt (P : Part) (h : Heap) (a : Addr) : D → Prop
  | .ilist ns => ∃ vs n, h.get? a = some (listO vs n) ∧ AllV IsI ns vs ∧ vs.length ≤ sizeLine
  | .list xs => ∃ vs n, h.get? a = some (listO vs n) ∧ AllV (Rep P) xs vs ∧ vs.length ≤ sizeLine
  | _ => False

noncomputable def LRel (K P : Part) (h : Heap) (F : Addr) (a : Addr) (mv : Option Value) : L → Prop
  | .unset => True
  | .val d => ∃ v, mv = some v ∧ Rep P d v
  | .own d => mv = some (.ref a) ∧ OwnAt P h a d ∧ K a = Option.none ∧ P a = Option.none ∧ a ≠ F
  | .pin b => mv = some (.ref b)

structure Inv (Fr : List Addr) (F : Addr) (names : List Str) (K P : Part) (ad : Nat → Addr) (σ : List L) (s : Shared) : Prop where
  keep : Keep Fr K s.heap
  isin : In P s.heap
  kF : K F = Option.none
  pF : P F = Option.none
  len : σ.length = names.length
  locs : ∃ (m : Str → Option Value), s.heap.Ns F m ∧ (∀ i x l, names[i]? = some x → σ[i]? = some l → LRel K P s.heap F (ad i) (m x) l)
  sep : ∀ i j di dj, σ[i]? = some (L.own di) → σ[j]? = some (L.own dj) → i ≠ j → ad i ≠ ad j

/-- the data that came; nothing of K is data that was not -/
noncomputable def Ext (K P P' : Part) : Prop := Sub P P' ∧ ∀ a, K a ≠ Option.none → P' a = P a
theorem Ext.refl (K P : Part) : Ext K P P := ⟨Sub.refl P, fun _ _ => rfl⟩
theorem Ext.trans {K P P' P'' : Part} (h : Ext K P P') (h' : Ext K P' P'') : Ext K P P'' := ⟨h.1.trans h'.1, fun a e => (h'.2 a e).trans (h.2 a e)⟩

noncomputable def Evo (s s' : Shared) : Prop := ∃ h tk, s' = { s with heap := h, toks := tk }
theorem Evo.refl (s : Shared) : Evo s s := ⟨s.heap, s.toks, rfl⟩
theorem Evo.trans {s s' s'' : Shared} (h : Evo s s') (h' : Evo s' s'') : Evo s s'' := by
  obtain ⟨_, _, rfl⟩ := h; obtain ⟨_, _, rfl⟩ := h'; exact ⟨_, _, rfl⟩

theorem OwnAt.mono {P P' : Part} (hs : Sub P P') {h : Heap} {a : Addr} : ∀ {d : D}, OwnAt P h a d → OwnAt P' h a d
  | .ilist _, x => x
  | .list _, ⟨vs, n, h1, h2, h3⟩ => ⟨vs, n, h1, h2.mono fun _ _ => Rep.mono hs, h3⟩
  | .none, x => x
  | .bool _, x => x
  | .int _, x => x
  | .str _, x => x
  | .tup _, x => x
theorem OwnAt.heap {P : Part} {h h' : Heap} {a : Addr} (hs : ∀ o, h.get? a = some o → h'.get? a = some o) : ∀ {d : D}, OwnAt P h a d → OwnAt P h' a d
  | .ilist _, ⟨vs, n, h1, h2⟩ => ⟨vs, n, hs _ h1, h2⟩
  | .list _, ⟨vs, n, h1, h2⟩ => ⟨vs, n, hs _ h1, h2⟩
  | .none, x => x
  | .bool _, x => x
  | .int _, x => x
  | .str _, x => x
  | .tup _, x => x
theorem OwnAt.seq {P : Part} {h : Heap} {a : Addr} {o : Obj} (ho : h.get? a = some o) : ∀ {d : D}, OwnAt P h a d → isSeq o
  | .ilist _, ⟨_, _, h1, _⟩ => by rw [ho] at h1; cases h1; exact ⟨_, _, rfl⟩
  | .list _, ⟨_, _, h1, _⟩ => by rw [ho] at h1; cases h1; exact ⟨_, _, rfl⟩
  | .none, x => x.elim
  | .bool _, x => x.elim
  | .int _, x => x.elim
  | .str _, x => x.elim
  | .tup _, x => x.elim
theorem OwnAt.there {P : Part} {h : Heap} {a : Addr} : ∀ {d : D}, OwnAt P h a d → ∃ o, h.get? a = some o
  | .ilist _, ⟨_, _, h1, _⟩ => ⟨_, h1⟩
  | .list _, ⟨_, _, h1, _⟩ => ⟨_, h1⟩
  | .none, x => x.elim
  | .bool _, x => x.elim
  | .int _, x => x.elim
  | .str _, x => x.elim
  | .tup _, x => x.elim

section
variable {Fr : List Addr} {F : Addr} {names : List Str} {K P P' : Part} {ad : Nat → Addr} {σ : List L} {s : Shared}

/-- the heap grew: nothing that stood has turned -/
theorem Inv.grow (I : Inv Fr F names K P ad σ s) {h' : Heap} {tk : Nat} (hs : ∀ b o, s.heap.get? b = some o → h'.get? b = some o) : Inv Fr F names K P ad σ { s with heap := h', toks := tk } := by
  obtain ⟨m, hn, hl⟩ := I.locs
  have ho := I.sep
  refine ⟨I.keep.of_keeps hs, I.isin.of_keeps hs, I.kF, I.pF, I.len, ⟨m, hn.keeps hs, fun i x l e1 e2 => ?_⟩, ho⟩
  have := hl i x l e1 e2
  cases l with
  | unset => trivial
  | pin b => exact this
  | val d => exact this
  | own d => exact ⟨this.1, this.2.1.heap fun o e => hs _ _ e, this.2.2⟩
theorem Inv.toks (I : Inv Fr F names K P ad σ s) (tk : Nat) : Inv Fr F names K P ad σ { s with toks := tk } := I.grow (h' := s.heap) fun _ _ e => e

/-- one more frozen object -/
noncomputable def addP (P : Part) (a : Addr) (o : Obj) : Part := fun b => if b = a then some o else P b
theorem addP_self (P : Part) (a : Addr) (o : Obj) : addP P a o a = some o := by simp [addP]
theorem addP_ne {P : Part} {a b : Addr} {o : Obj} (h : b ≠ a) : addP P a o b = P b := by simp [addP, h]
theorem addP_sub {P : Part} {a : Addr} {o : Obj} (h : P a = Option.none) : Sub P (addP P a o) := fun b x e => by
  rw [addP_ne]; exact e
  intro q; rw [q, h] at e; cases e
theorem addP_ext {K P : Part} {a : Addr} {o : Obj} (h : P a = Option.none) (hk : K a = Option.none) : Ext K P (addP P a o) := ⟨addP_sub h, fun b e => addP_ne fun q => e (q ▸ hk)⟩

theorem LRel.addP {K P : Part} {h : Heap} {F a b : Addr} {o : Obj} {mv : Option Value} (hp : P a = Option.none) : ∀ {l : L}, LRel K P h F b mv l → ((∃ d, l = .own d) → b ≠ a) → LRel K (addP P a o) h F b mv l
  | .unset, _, _ => trivial
  | .pin _, x, _ => x
  | .val _, ⟨v, h1, h2⟩, _ => ⟨v, h1, h2.mono (addP_sub hp)⟩
  | .own d, x, hn => ⟨x.1, x.2.1.mono (addP_sub hp), x.2.2.1, (addP_ne (hn ⟨d, rfl⟩)).trans x.2.2.2.1, x.2.2.2.2⟩
theorem LRel.heap {K P : Part} {h h' : Heap} {F b : Addr} {mv : Option Value} : ∀ {l : L}, LRel K P h F b mv l → ((∃ d, l = .own d) → ∀ o, h.get? b = some o → h'.get? b = some o) → LRel K P h' F b mv l
  | .unset, _, _ => trivial
  | .pin _, x, _ => x
  | .val _, x, _ => x
  | .own d, x, hn => ⟨x.1, x.2.1.heap (hn ⟨d, rfl⟩), x.2.2⟩
theorem LRel.there {K P : Part} {h : Heap} {F b : Addr} {mv : Option Value} {d : D} (x : LRel K P h F b mv (.own d)) : ∃ o, h.get? b = some o := x.2.1.there

theorem In.addP {P : Part} {h : Heap} {a : Addr} {o : Obj} (k : In P h) (ho : h.get? a = some o) (hs : isSeq o) : In (addP P a o) h := fun b x e => by
  by_cases q : b = a
  · subst q; rw [addP_self] at e; cases e; exact ⟨ho, hs⟩
  · rw [addP_ne q] at e; exact k b x e

/-- a new object, frozen at once -/
theorem Inv.alloc (I : Inv Fr F names K P ad σ s) (o : Obj) (hf : o.isFreed = false) (hsq : isSeq o) : Inv Fr F names K (addP P s.heap.objs.size o) ad σ { s with heap := s.heap.push o } := by
  obtain ⟨m, hn, hl⟩ := I.locs
  have ho := I.sep
  have hF : F ≠ s.heap.objs.size := Nat.ne_of_lt hn.lt
  have up : ∀ b x, s.heap.get? b = some x → (s.heap.push o).get? b = some x := fun _ _ e => Heap.get?_push_of_some _ e
  refine ⟨I.keep.of_keeps up, (I.isin.of_keeps up).addP (Heap.get?_push_size _ hf) hsq, I.kF, (addP_ne hF).trans I.pF, I.len, ⟨m, hn.keeps up, fun i x l e1 e2 => ?_⟩, ho⟩
  have := hl i x l e1 e2
  refine LRel.addP I.isin.size (this.heap fun _ o e => up _ _ e) ?_
  rintro ⟨d, rfl⟩ q
  obtain ⟨ob, hob⟩ := this.there
  exact absurd (Heap.lt_size hob) (by rw [q]; exact Nat.lt_irrefl _)
theorem Inv.alloc_ext (I : Inv Fr F names K P ad σ s) (o : Obj) : Ext K P (addP P s.heap.objs.size o) := addP_ext I.isin.size I.keep.size

/-- a store into a local -/
theorem Inv.store (I : Inv Fr F names K P ad σ s) {i : Nat} {x : Str} {d : D} {v : Value} {h' : Heap} {tk : Nat} (hnd : names.Nodup) (hx : names[i]? = some x) (hr : Rep P d v)
    (hs : ∀ m, s.heap.Ns F m → h'.Ns F (fun y => if y = x then some v else m y)) (hb : Heap.SameBut F s.heap h') : Inv Fr F names K P ad (σ.set i (.val d)) { s with heap := h', toks := tk } := by
  obtain ⟨m, hn, hl⟩ := I.locs
  have ho := I.sep
  refine ⟨I.keep.of_same hb I.kF, I.isin.of_same hb I.pF, I.kF, I.pF, by rw [List.length_set]; exact I.len, ⟨_, hs m hn, fun j y l e1 e2 => ?_⟩, fun j k dj dk e1 e2 => ?_⟩
  · rw [List.getElem?_set] at e2
    by_cases q : i = j
    · subst q
      rw [hx] at e1; cases e1
      simp only [if_true] at e2 ⊢
      split at e2
      · cases e2; exact ⟨v, rfl, hr⟩
      · cases e2
    · have hy : y ≠ x := fun r => q ((List.getElem?_inj (List.getElem?_eq_some_iff.mp hx).1 hnd).mp (hx.trans (r ▸ e1).symm))
      simp only [if_neg q] at e2
      simp only [if_neg hy]
      have := hl j y l e1 e2
      refine this.heap ?_
      rintro ⟨d', rfl⟩ o e
      exact (hb.2 _ this.2.2.2.2).trans e
  · rw [List.getElem?_set] at e1 e2
    refine ho j k dj dk ?_ ?_
    · split at e1
      · split at e1 <;> cases e1
      · exact e1
    · split at e2
      · split at e2 <;> cases e2
      · exact e2

/-- a store of a list that is nobody else's -/
theorem Inv.storeOwn (I : Inv Fr F names K P ad σ s) {i : Nat} {x : Str} {d : D} {a : Addr} {h' : Heap} {tk : Nat} (hnd : names.Nodup) (hx : names[i]? = some x)
    {h₁ : Heap} (up : ∀ b o, b ≠ F → s.heap.get? b = some o → h₁.get? b = some o) (upF : ∀ m, s.heap.Ns F m → h₁.Ns F m) (hnew : s.heap.get? a = Option.none) (hat : OwnAt P h₁ a d)
    (hs : ∀ m, h₁.Ns F m → h'.Ns F (fun y => if y = x then some (.ref a) else m y)) (hb : Heap.SameBut F h₁ h') : Inv Fr F names K P (fun j => if j = i then a else ad j) (σ.set i (.own d)) { s with heap := h', toks := tk } := by
  obtain ⟨m, hn, hl⟩ := I.locs
  have ho := I.sep
  have up' : ∀ b o, b ≠ F → s.heap.get? b = some o → h'.get? b = some o := fun b o hF e => (hb.2 b hF).trans (up b o hF e)
  have kA : K a = Option.none := by
    cases e : K a with
    | none => rfl
    | some o => obtain ⟨o', h1, _⟩ := I.keep a o e; rw [hnew] at h1; cases h1
  have pA : P a = Option.none := by
    cases e : P a with
    | none => rfl
    | some o => have h1 := (I.isin a o e).1; rw [hnew] at h1; cases h1
  have hF : a ≠ F := by
    obtain ⟨o, es, ep, e, _⟩ := hn
    intro q; rw [q, e] at hnew; cases hnew
  have off : ∀ j dj, σ[j]? = some (L.own dj) → ad j ≠ a := fun j dj e q => by
    have hj : j < names.length := by rw [← I.len]; exact (List.getElem?_eq_some_iff.mp e).1
    obtain ⟨o, h1⟩ := (hl j names[j] _ (by simp [hj]) e).there
    rw [q, hnew] at h1; cases h1
  refine ⟨fun b o e => ?_, fun b o e => ⟨up' b o (fun q => by rw [q, I.pF] at e; cases e) (I.isin b o e).1, (I.isin b o e).2⟩, I.kF, I.pF, by rw [List.length_set]; exact I.len, ⟨_, hs m (upF m hn), fun j y l e1 e2 => ?_⟩, fun j k dj dk e1 e2 hne => ?_⟩
  · obtain ⟨o', h1, h2⟩ := I.keep b o e
    exact ⟨o', up' b o' (fun q => by rw [q, I.kF] at e; cases e) h1, h2⟩
  · rw [List.getElem?_set] at e2
    by_cases q : i = j
    · subst q
      rw [hx] at e1; cases e1
      simp only [if_true] at e2 ⊢
      split at e2
      · cases e2; exact ⟨rfl, hat.heap fun o e => (hb.2 _ hF).trans e, kA, pA, hF⟩
      · cases e2
    · have hy : y ≠ x := fun r => q ((List.getElem?_inj (List.getElem?_eq_some_iff.mp hx).1 hnd).mp (hx.trans (r ▸ e1).symm))
      simp only [if_neg q] at e2
      simp only [if_neg hy, if_neg (Ne.symm q)]
      have := hl j y l e1 e2
      refine this.heap ?_
      rintro ⟨d', rfl⟩ o e
      exact up' _ _ this.2.2.2.2 e
  · rw [List.getElem?_set] at e1 e2
    by_cases qj : i = j
    · by_cases qk : i = k
      · exact absurd (qj.symm.trans qk) hne
      · simp only [if_neg qk] at e2
        simp only [qj, if_true, if_neg (fun r : k = j => qk (qj.trans r.symm))]
        exact (off k dk e2).symm
    · simp only [if_neg qj] at e1
      simp only [if_neg (Ne.symm qj)]
      by_cases qk : i = k
      · simp only [← qk, if_true]
        exact off j dj e1
      · simp only [if_neg qk] at e2
        simp only [if_neg (Ne.symm qk)]
        exact ho j k dj dk e1 e2 hne

theorem OwnAt.rep {P : Part} {h : Heap} {a : Addr} {o : Obj} (hp : P a = Option.none) (ho : h.get? a = some o) : ∀ {d : D}, OwnAt P h a d → Rep (addP P a o) d (.ref a)
  | .ilist _, ⟨vs, n, h1, h2, h3⟩ => by rw [ho] at h1; cases h1; exact ⟨a, vs, n, rfl, addP_self .., h2, h3⟩
  | .list _, ⟨vs, n, h1, h2, h3⟩ => by
    rw [ho] at h1; cases h1
    exact ⟨a, vs, n, rfl, addP_self .., reps_all.mpr (h2.mono fun _ _ => Rep.mono (addP_sub hp)), h3⟩
  | .none, x => x.elim
  | .bool _, x => x.elim
  | .int _, x => x.elim
  | .str _, x => x.elim
  | .tup _, x => x.elim

/-- the frame's own list becomes data -/
theorem Inv.freeze (I : Inv Fr F names K P ad σ s) {i : Nat} {d : D} (hi : σ[i]? = some (.own d)) : ∃ P', Ext K P P' ∧ Inv Fr F names K P' ad (σ.set i (.val d)) s := by
  obtain ⟨m, hn, hl⟩ := I.locs
  have ho := I.sep
  have hlt : i < names.length := by rw [← I.len]; exact (List.getElem?_eq_some_iff.mp hi).1
  have O := hl i names[i] _ (by simp [hlt]) hi
  obtain ⟨o, hob⟩ := O.there
  refine ⟨addP P (ad i) o, addP_ext O.2.2.2.1 O.2.2.1, I.keep, I.isin.addP hob (O.2.1.seq hob), I.kF, (addP_ne (Ne.symm O.2.2.2.2)).trans I.pF, by rw [List.length_set]; exact I.len, ⟨m, hn, fun j y l e1 e2 => ?_⟩, fun j k dj dk e1 e2 hne => ?_⟩
  · rw [List.getElem?_set] at e2
    by_cases q : i = j
    · subst q
      simp only [if_true] at e2
      split at e2
      · cases e2
        have : y = names[i] := by simp [hlt] at e1; exact e1.symm
        subst this
        exact ⟨_, O.1, O.2.1.rep O.2.2.2.1 hob⟩
      · cases e2
    · simp only [if_neg q] at e2
      refine (hl j y l e1 e2).addP O.2.2.2.1 ?_
      rintro ⟨d', rfl⟩
      exact ho j i d' d e2 hi (Ne.symm q)
  · rw [List.getElem?_set] at e1 e2
    refine ho j k dj dk ?_ ?_ hne
    · split at e1
      · split at e1 <;> cases e1
      · exact e1
    · split at e2
      · split at e2 <;> cases e2
      · exact e2

theorem Inv.ownAt (I : Inv Fr F names K P ad σ s) {i : Nat} {x : Str} {d : D} (hx : names[i]? = some x) (hi : σ[i]? = some (.own d)) : ∃ m, s.heap.Ns F m ∧ m x = some (.ref (ad i)) ∧ OwnAt P s.heap (ad i) d ∧
    (∀ h' tk d', Heap.SameBut (ad i) s.heap h' → OwnAt P h' (ad i) d' → Inv Fr F names K P ad (σ.set i (.own d')) { s with heap := h', toks := tk }) := by
  obtain ⟨m, hn, hl⟩ := I.locs
  have ho := I.sep
  have O := hl i x _ hx hi
  refine ⟨m, hn, O.1, O.2.1, fun h' tk d' hb hat => ?_⟩
  refine ⟨I.keep.of_same hb O.2.2.1, I.isin.of_same hb O.2.2.2.1, I.kF, I.pF, by rw [List.length_set]; exact I.len, ⟨m, hn.sameBut hb (Ne.symm O.2.2.2.2), fun j y l e1 e2 => ?_⟩, fun j k dj dk e1 e2 hne => ?_⟩
  · rw [List.getElem?_set] at e2
    by_cases q : i = j
    · subst q
      rw [hx] at e1; cases e1
      simp only [if_true] at e2
      split at e2
      · cases e2; exact ⟨O.1, hat, O.2.2⟩
      · cases e2
    · simp only [if_neg q] at e2
      refine (hl j y l e1 e2).heap ?_
      rintro ⟨dd, rfl⟩ o e
      exact (hb.2 _ (ho j i dd d e2 hi (Ne.symm q))).trans e
  · rw [List.getElem?_set] at e1 e2
    have f : ∀ {j dj}, (if i = j then (if i < σ.length then some (L.own d') else Option.none) else σ[j]?) = some (L.own dj) → ∃ dj', σ[j]? = some (L.own dj') := by
      intro j dj e
      split at e
      · rename_i q; exact ⟨d, q ▸ hi⟩
      · exact ⟨_, e⟩
    obtain ⟨_, e1'⟩ := f e1
    obtain ⟨_, e2'⟩ := f e2
    exact ho j k _ _ e1' e2' hne

theorem Inv.valAt (I : Inv Fr F names K P ad σ s) {i : Nat} {x : Str} {d : D} (hx : names[i]? = some x) (hi : σ[i]? = some (.val d)) : ∃ m v, s.heap.Ns F m ∧ m x = some v ∧ Rep P d v := by
  obtain ⟨m, hn, hl⟩ := I.locs
  obtain ⟨v, h1, h2⟩ := hl i x _ hx hi
  exact ⟨m, v, hn, h1, h2⟩
end
end Lim

/-! The operations upon related values. -/
namespace Lim
open PySem PyProof.Rows

abbrev Post1 (fr : List Addr) (F : Addr) (names : List Str) (K P : Part) (ad : Nat → Addr) (σ : List L) (s : Shared) (Q : Value → Shared → Prop) (d : D) : Prop :=
  ∀ P' v s', Ext K P P' → Inv fr F names K P' ad σ s' → Rep P' d v → Evo s s' → Q v s'

theorem bits_le {a : Int} (h : a.natAbs ≤ FAC) : Builtin.Int.intBits a ≤ 2 ^ 20 := by
  have h1 : a.natAbs < 2 ^ 300 := Nat.lt_of_le_of_lt h (by decide +kernel)
  exact Nat.le_trans (intBits_le h1) (by decide +kernel)

theorem noPylong {a b : Int} (h : b.natAbs ≤ FAC) : Builtin.divisionGoesByPylong a b = false := by
  refine PyProof.noPylong_of_log2 ?_
  by_cases h0 : b.natAbs = 0
  · rw [h0]; decide +kernel
  · exact (Nat.log2_lt h0).mpr (Nat.lt_of_le_of_lt h (by decide +kernel))

section
variable {prog : Program} {w : World} {A : Around} {E : Value → Shared → Prop} {s : Shared} {fr : List Addr} {F : Addr} {names : List Str} {K P : Part} {ad : Nat → Addr} {σ : List L} {Q : Value → Shared → Prop} {X : Exc → Prop}

theorem Post1.tok (I : Inv fr F names K P ad σ s) {d : D} {v : Value} (h : Post1 fr F names K P ad σ s Q d) (hr : Rep P d v) (tk : Nat) : Q v { s with toks := tk } :=
  h P v _ (Ext.refl K P) (I.toks tk) hr ⟨s.heap, tk, rfl⟩
theorem Post1.same (I : Inv fr F names K P ad σ s) {d : D} {v : Value} (h : Post1 fr F names K P ad σ s Q d) (hr : Rep P d v) : Q v s := h.tok I hr s.toks
theorem Post1.new (I : Inv fr F names K P ad σ s) {d : D} {o : Obj} (h : Post1 fr F names K P ad σ s Q d) (hf : o.isFreed = false) (hsq : isSeq o) (hr : Rep (addP P s.heap.objs.size o) d (.ref s.heap.objs.size)) :
    Q (.ref s.heap.objs.size) { s with heap := s.heap.push o } := h _ _ _ (I.alloc_ext o) (I.alloc o hf hsq) hr ⟨_, _, rfl⟩

theorem rep_eq (xs : List Value) (n : Nat) : (List.foldl (fun x1 x2 => x1 ++ x2) #[] (List.replicate n xs.toArray)).toList = rep xs n := by
  have h : ∀ (n : Nat) (acc : Array Value), (List.foldl (fun x1 x2 => x1 ++ x2) acc (List.replicate n xs.toArray)).toList = acc.toList ++ rep xs n := by
    intro n
    induction n with
    | zero => intro acc; simp [rep]
    | succ n ih => intro acc; simp [List.replicate_succ, ih, rep]
  simpa using h n #[]

theorem In.list {P : Part} {h : Heap} {a : Addr} {vs : List Value} {n : Nat} (k : In P h) (e : P a = some (listO vs n)) : h.IsList a vs.toArray := ⟨_, (k _ _ e).1, rfl, n, rfl⟩
theorem In.tup {P : Part} {h : Heap} {a : Addr} {vs : List Value} {n : Nat} (k : In P h) (e : P a = some (tupO vs n)) : IsTup h a vs.toArray := ⟨_, (k _ _ e).1, rfl, n, rfl⟩

theorem allNews (h : Heap) (F : Addr) : ∃ news, News {} F h news ∧ ∀ b o, b ≠ F → h.get? b = some o → (b, o) ∈ news := by
  refine ⟨(List.range h.objs.size).filterMap fun a => if a = F then Option.none else (h.get? a).map fun o => (a, o), fun p hp => ?_, fun b o hb e => ?_⟩
  · obtain ⟨a, _, ha⟩ := List.mem_filterMap.mp hp
    split at ha
    · cases ha
    · rename_i q
      obtain ⟨o, h1, rfl⟩ := Option.map_eq_some_iff.mp ha
      exact ⟨h1, q, rfl⟩
  · exact List.mem_filterMap.mpr ⟨b, List.mem_range.mpr (Heap.lt_size e), by rw [if_neg hb, e]; rfl⟩
theorem frEmpty {h : Heap} {F : Addr} {m : Str → Option Value} (hn : h.Ns F m) : Fr {} F h m := ⟨hn, fun _ _ e => (by cases e), Nat.zero_le _⟩

theorem Inv.grow2 (I : Inv fr F names K P ad σ s) {h' : Heap} {tk : Nat} (hs : ∀ b o, b ≠ F → s.heap.get? b = some o → h'.get? b = some o) (hn : ∀ m, s.heap.Ns F m → h'.Ns F m) : Inv fr F names K P ad σ { s with heap := h', toks := tk } := by
  obtain ⟨m, hm, hl⟩ := I.locs
  have ho := I.sep
  have nK : ∀ a o, K a = some o → a ≠ F := fun a o e q => by rw [q, I.kF] at e; cases e
  have nP : ∀ a o, P a = some o → a ≠ F := fun a o e q => by rw [q, I.pF] at e; cases e
  refine ⟨fun a o e => ?_, fun a o e => ⟨hs a o (nP a o e) (I.isin a o e).1, (I.isin a o e).2⟩, I.kF, I.pF, I.len, ⟨m, hn m hm, fun i x l e1 e2 => ?_⟩, ho⟩
  · obtain ⟨o', h1, h2⟩ := I.keep a o e; exact ⟨o', hs a o' (nK a o e) h1, h2⟩
  · have := hl i x l e1 e2
    refine this.heap ?_
    rintro ⟨d, rfl⟩ o e
    exact hs _ _ this.2.2.2.2 e

theorem ns_same {h h' : Heap} {F : Addr} {m : Str → Option Value} (x : h.Ns F m) (y : h'.Ns F m) : ∀ m', h.Ns F m' → h'.Ns F m' := fun m' z => by
  have : m' = m := funext fun n => z.agree x n
  rw [this]; exact y
theorem rep_length {α : Type} (xs : List α) : ∀ n, (rep xs n).length = xs.length * n
  | 0 => rfl
  | n + 1 => by rw [rep, List.length_append, rep_length xs n, Nat.mul_succ, Nat.add_comm]
theorem Inv.alloc2 (I : Inv fr F names K P ad σ s) {h' : Heap} {tk : Nat} {o : Obj} (hs : ∀ b o, b ≠ F → s.heap.get? b = some o → h'.get? b = some o) (hn : ∀ m, s.heap.Ns F m → h'.Ns F m) (ho : h'.get? s.heap.objs.size = some o) (hsq : isSeq o) :
    Inv fr F names K (addP P s.heap.objs.size o) ad σ { s with heap := h', toks := tk } := by
  have J := I.grow2 (tk := tk) hs hn
  obtain ⟨m, hm, hl⟩ := I.locs
  have hd := I.sep
  have hF : F ≠ s.heap.objs.size := Nat.ne_of_lt hm.lt
  refine ⟨J.keep, J.isin.addP ho hsq, I.kF, (addP_ne hF).trans I.pF, I.len, ⟨m, hn m hm, fun i x l e1 e2 => ?_⟩, hd⟩
  have := hl i x l e1 e2
  refine LRel.addP I.isin.size (this.heap ?_) ?_
  · rintro ⟨d, rfl⟩ o e
    exact hs _ _ this.2.2.2.2 e
  · rintro ⟨d, rfl⟩ q
    obtain ⟨ob, hob⟩ := this.there
    exact absurd (Heap.lt_size hob) (by rw [q]; exact Nat.lt_irrefl _)

noncomputable def opOf : Bop → Operator
  | .add => .Add | .sub => .Sub | .mul => .Mult | .fdiv => .FloorDiv | .mod => .Mod | .pow => .Pow | .shl => .LShift

theorem wp_ite {α : Type} {c : Prop} [Decidable c] {r : Res α} {Q' : α → Prop} {X' : Exc → Prop} (h : (if c then r else .stuck).wp Q' X') : c ∧ r.wp Q' X' := by
  by_cases q : c
  · rw [if_pos q] at h; exact ⟨q, h⟩
  · rw [if_neg q] at h; exact h.elim

theorem mul_raw (I : Inv fr F names K P ad σ s) {ns : List Int} {k : Int} {v u : Value} (hv : Rep P (.ilist ns) v) (hu : Rep P (.int k) u) (h0 : 0 ≤ k) (h1 : k ≤ LIM) (h2 : ns.length * k.toNat ≤ LIM)
    (h : ∀ h' vs, (∀ b o, b ≠ F → s.heap.get? b = some o → h'.get? b = some o) → (∀ m, s.heap.Ns F m → h'.Ns F m) → h'.get? s.heap.objs.size = some (listO vs 0) → AllV IsI (rep ns k.toNat) vs → vs.length ≤ sizeLine → Q (.ref s.heap.objs.size) { s with heap := h' }) :
    wpAny (model prog w) A (binaryOp .Mult v u) Q E s := by
  obtain ⟨a, vs, n, rfl, p1, p2, p3⟩ := hv
  obtain ⟨t', rfl⟩ := hu
  obtain ⟨mm, hns, _⟩ := id I.locs
  obtain ⟨news, N, hN⟩ := allNews s.heap F
  have hL : (LIM : Int) = 1000000 := rfl
  have hL' : LIM = 1000000 := rfl
  have hl' : vs.length * k.toNat ≤ LIM := by rw [p2.length]; exact h2
  refine PyProof.Rows.mul_list (frEmpty hns) N (I.isin _ _ p1).1 (by lia) (by lia) (by simp only [List.size_toArray]; lia) fun h' F' N' => ?_
  have e : (List.foldl (fun x1 x2 => x1 ++ x2) #[] (List.replicate (if vs.toArray.isEmpty = true then 0 else k.toNat) vs.toArray)) = (rep vs k.toNat).toArray := by
    apply Array.ext'
    rw [rep_eq]
    by_cases q : vs = []
    · subst q
      have : ∀ n, rep ([] : List Value) n = [] := fun n => by induction n <;> simp_all [rep]
      simp [this]
    · simp [q]
  rw [e] at N'
  have hsz : (rep vs k.toNat).length ≤ sizeLine := by
    rw [(AllV.rep p2 k.toNat).length]
    have : (rep ns k.toNat).length = ns.length * k.toNat := rep_length ns _
    rw [this]
    exact Nat.le_trans h2 (by decide +kernel)
  exact h h' (rep vs k.toNat) (fun b o hb q => (N' _ (List.mem_cons_of_mem _ (hN b o hb q))).1) (ns_same hns F'.ns) (N' _ (.head _)).1 (AllV.rep p2 k.toNat) hsz

theorem Str.ext' {a b : Str} (h : a.cps = b.cps) : a = b := by cases a; cases b; cases h; rfl
theorem cps_append (a b : Str) : (a ++ b).cps = a.cps ++ b.cps := rfl
theorem okS_append {a b : Str} (h1 : okS a = true) (h2 : okS b = true) : okS (a ++ b) = true := by
  simp only [okS, cps_append, Array.all_append] at *
  simp [h1, h2]
theorem mem_rep {α : Type} {x : α} {xs : List α} : ∀ {n : Nat}, x ∈ rep xs n → x ∈ xs
  | 0, h => by cases h
  | n + 1, h => by
    rw [rep] at h
    rcases List.mem_append.mp h with h | h
    · exact h
    · exact mem_rep h
theorem okS_rep {a : Str} (h1 : okS a = true) (n : Nat) : okS ⟨(rep a.cps.toList n).toArray⟩ = true := by
  simp only [okS] at *
  rw [List.all_toArray, List.all_eq_true]
  rw [← Array.all_toList, List.all_eq_true] at h1
  exact fun x hx => h1 x (mem_rep hx)
theorem rep_eqN (xs : Array Nat) (n : Nat) : (List.foldl (fun x1 x2 => x1 ++ x2) #[] (List.replicate n xs)).toList = rep xs.toList n := by
  have gen : ∀ (n : Nat) (acc : Array Nat), (List.foldl (fun x1 x2 => x1 ++ x2) acc (List.replicate n xs)).toList = acc.toList ++ rep xs.toList n := by
    intro n
    induction n with
    | zero => intro acc; simp [rep]
    | succ n ih => intro acc; rw [List.replicate_succ, List.foldl_cons, ih]; simp [rep]
  rw [gen]; simp
theorem binop_ok (I : Inv fr F names K P ad σ s) {op : Bop} {x y : D} {v u : Value} (hv : Rep P x v) (hu : Rep P y u) (h : (binop op x y).wp (Post1 fr F names K P ad σ s Q) X) :
    wpAny (model prog w) A (binaryOp (opOf op) v u) Q E s := by
  cases op
  case add =>
    cases x <;> first | exact h.elim | (cases y <;> first | exact h.elim | skip)
    case int.int =>
      obtain ⟨t, rfl⟩ := hv; obtain ⟨t', rfl⟩ := hu
      exact PySem.P.add_int (Post1.tok I h ⟨_, rfl⟩ _)
    case str.str a b =>
      obtain ⟨⟨t, rfl⟩, o1, l1⟩ := hv
      obtain ⟨⟨t', rfl⟩, o2, l2⟩ := hu
      obtain ⟨hl, h⟩ := wp_ite h
      have ho : okS (a ++ b) = true := okS_append o1 o2
      have hz : (a ++ b).cps.size ≤ LIM := by rw [cps_append, Array.size_append]; exact hl
      refine PySem.P.add_str ?_
      by_cases e1 : (a.length == 0) = true
      · rw [if_pos e1]
        have ea : a ++ b = b := by
          have : a.cps = #[] := Array.size_eq_zero_iff.mp (by simpa [Str.length] using e1)
          apply Str.ext'; rw [cps_append, this]; simp
        rw [ea] at h
        exact Post1.same I h ⟨⟨_, rfl⟩, o2, l2⟩
      · rw [if_neg e1]
        by_cases e2 : (b.length == 0) = true
        · rw [if_pos e2]
          have ea : a ++ b = a := by
            have : b.cps = #[] := Array.size_eq_zero_iff.mp (by simpa [Str.length] using e2)
            apply Str.ext'; rw [cps_append, this]; simp
          rw [ea] at h
          exact Post1.same I h ⟨⟨_, rfl⟩, o1, l1⟩
        · rw [if_neg e2]
          exact ⟨Nat.le_trans hz (by decide +kernel), Post1.tok I h ⟨⟨_, rfl⟩, ho, hz⟩ _⟩
    case ilist.ilist =>
      obtain ⟨a, vs, n, rfl, p1, p2, p3⟩ := hv
      obtain ⟨b, ws, m, rfl, q1, q2, q3⟩ := hu
      obtain ⟨hl, h⟩ := wp_ite h
      have hl' : vs.length + ws.length ≤ LIM := by rw [p2.length, q2.length]; exact hl
      have e : (vs.toArray ++ ws.toArray) = (vs ++ ws).toArray := by simp
      have hsz : (vs ++ ws).length ≤ sizeLine := by
        rw [List.length_append]; exact Nat.le_trans hl' (by decide +kernel)
      refine PySem.P.add_list (I.isin _ _ p1).1 (I.isin _ _ q1).1 ?_ (by simpa using hsz)
      rw [e]
      exact Post1.new I h rfl ⟨_, _, rfl⟩ ⟨_, vs ++ ws, 0, rfl, addP_self .., p2.append q2, hsz⟩
  case sub =>
    obtain ⟨a, b, rfl, rfl, h⟩ := intsD_wp h
    obtain ⟨t, rfl⟩ := hv; obtain ⟨t', rfl⟩ := hu
    exact PySem.P.sub_int (Post1.tok I h ⟨_, rfl⟩ _)
  case mul =>
    cases y <;> first | exact h.elim | (cases x <;> first | exact h.elim | skip)
    case int.int =>
      obtain ⟨t, rfl⟩ := hv; obtain ⟨t', rfl⟩ := hu
      obtain ⟨⟨h1, h2⟩, h⟩ := wp_ite h
      exact PySem.P.mul_int (Post1.tok I h ⟨_, rfl⟩ _) (IntMulOk.of_bits (bits_le h1) (bits_le h2))
    case int.str k a =>
      obtain ⟨⟨t, rfl⟩, o1, l1⟩ := hv
      obtain ⟨t', rfl⟩ := hu
      obtain ⟨⟨h0, h1, h2⟩, h⟩ := wp_ite h
      have hL : (LIM : Int) = 1000000 := rfl
      have ho : okS ⟨(rep a.cps.toList k.toNat).toArray⟩ = true := okS_rep o1 _
      have hz : (rep a.cps.toList k.toNat).toArray.size ≤ LIM := by rw [List.size_toArray, rep_length, Array.length_toList]; exact h2
      refine PySem.P.mul_str (by simp; lia) (fun hk _ => ?_) (fun hk _ => ?_) ?_
      · have : (a.length : Int) ≤ 1000000 := by simp only [Str.length]; lia
        have h3 : (1000000 : Int) ≤ (2 ^ 63 - 1) / k := by
          rw [Int.le_ediv_iff_mul_le (by lia)]; lia
        lia
      · show decide (_ > sizeLine) = false
        rw [decide_eq_false_iff_not]
        have : a.length * k.toNat ≤ LIM := h2
        have hS : sizeLine = 16777216 := by decide +kernel
        simp only [LIM] at this
        lia
      · by_cases hk : k < 1
        · rw [if_pos hk]
          have : k.toNat = 0 := by lia
          rw [this] at h ho hz
          exact ⟨by decide, Post1.tok I h ⟨⟨_, rfl⟩, ho, hz⟩ _⟩
        · rw [if_neg hk]
          by_cases hc : (k == 1 || a.length == 0) = true
          · rw [if_pos hc]
            have e : (⟨(rep a.cps.toList k.toNat).toArray⟩ : Str) = a := by
              apply Str.ext'
              rcases Bool.or_eq_true _ _ ▸ hc with hc | hc
              · have : k.toNat = 1 := by simp at hc; lia
                rw [this]; simp [rep]
              · have : a.cps = #[] := Array.size_eq_zero_iff.mp (by simpa [Str.length] using hc)
                have hr : ∀ n, rep ([] : List Nat) n = [] := fun n => by induction n <;> simp_all [rep]
                rw [this]; simp [hr]
            rw [e] at h
            exact Post1.same I h ⟨⟨_, rfl⟩, o1, l1⟩
          · rw [if_neg hc]
            have e : (List.foldl (fun x1 x2 => x1 ++ x2) #[] (List.replicate k.toNat a.cps)) = (rep a.cps.toList k.toNat).toArray := by
              apply Array.ext'
              rw [← rep_eqN]
            rw [e]
            exact ⟨Nat.le_trans hz (by decide +kernel), Post1.tok I h ⟨⟨_, rfl⟩, ho, hz⟩ _⟩
    case int.ilist k ns =>
      obtain ⟨⟨h0, h1, h2⟩, h⟩ := wp_ite h
      refine mul_raw I hv hu h0 h1 h2 fun h' vs up upF ho hv' hl => ?_
      exact h _ _ _ (I.alloc_ext _) (Inv.alloc2 (tk := s.toks) I up upF ho ⟨_, _, rfl⟩) ⟨_, vs, 0, rfl, addP_self .., hv', hl⟩ ⟨_, _, rfl⟩
  case fdiv =>
    obtain ⟨a, b, rfl, rfl, h⟩ := intsD_wp h
    obtain ⟨t, rfl⟩ := hv; obtain ⟨t', rfl⟩ := hu
    obtain ⟨⟨h1, h2⟩, h⟩ := wp_ite h
    exact PyProof.Rows.floordiv_int h1 (Post1.tok I h ⟨_, rfl⟩ _) (.inl (noPylong h2))
  case mod =>
    obtain ⟨a, b, rfl, rfl, h⟩ := intsD_wp h
    obtain ⟨t, rfl⟩ := hv; obtain ⟨t', rfl⟩ := hu
    obtain ⟨h1, h⟩ := wp_ite h
    exact PyProof.Rows.mod_int' h1 (Post1.tok I h ⟨_, rfl⟩ _)
  case pow =>
    obtain ⟨a, b, rfl, rfl, h⟩ := intsD_wp h
    obtain ⟨t, rfl⟩ := hv; obtain ⟨t', rfl⟩ := hu
    obtain ⟨⟨h1, h2, h3⟩, h⟩ := wp_ite h
    exact PyProof.Rows.pow_int_small h1 (by lia) h3 (Post1.tok I h ⟨_, rfl⟩ _)
  case shl =>
    obtain ⟨a, b, rfl, rfl, h⟩ := intsD_wp h
    obtain ⟨t, rfl⟩ := hv; obtain ⟨t', rfl⟩ := hu
    obtain ⟨⟨h1, h2, h3⟩, h⟩ := wp_ite h
    exact PyProof.Rows.lshift_int_small h1 (by lia) h3 (Post1.tok I h ⟨_, rfl⟩ _)

noncomputable def copOf : Cop → CmpOp
  | .lt => .Lt | .le => .LtE | .gt => .Gt | .ge => .GtE | .eq => .Eq | .ne => .NotEq | .notIn => .NotIn

theorem getitem_ok (I : Inv fr F names K P ad σ s) {x y : D} {v u : Value} (hv : Rep P x v) (hu : Rep P y u) (h : (getitem x y).wp (Post1 fr F names K P ad σ s Q) X) :
    wpAny (model prog w) A (getItem v u) Q E s := by
  cases y <;> first | exact h.elim | skip
  rename_i k
  replace h := wp_ite h
  obtain ⟨h0, h⟩ := h
  cases x <;> first | exact h.elim | skip
  case ilist ns =>
    obtain ⟨a, vs, n, rfl, p1, p2, p3⟩ := hv
    obtain ⟨t, rfl⟩ := hu
    obtain ⟨z, e, h⟩ := optR_wp h
    obtain ⟨z', h1, t', rfl⟩ := p2.get e
    have hlt : k.toNat < vs.length := (List.getElem?_eq_some_iff.mp h1).1
    have hS : sizeLine = 16777216 := by decide +kernel
    exact wpAny_getItem_list (I.isin.list p1) h0 (by lia) (by simpa using h1) (Post1.same I h ⟨_, rfl⟩)
  case list xs =>
    obtain ⟨a, vs, n, rfl, p1, p2, p3⟩ := hv
    obtain ⟨t, rfl⟩ := hu
    obtain ⟨z, e, h⟩ := optR_wp h
    obtain ⟨z', h1, h2⟩ := (reps_all.mp p2).get e
    have hlt : k.toNat < vs.length := (List.getElem?_eq_some_iff.mp h1).1
    have hS : sizeLine = 16777216 := by decide +kernel
    exact wpAny_getItem_list (I.isin.list p1) h0 (by lia) (by simpa using h1) (Post1.same I h h2)
  case tup xs =>
    obtain ⟨a, vs, n, rfl, p1, p2, p3⟩ := hv
    obtain ⟨t, rfl⟩ := hu
    obtain ⟨z, e, h⟩ := optR_wp h
    obtain ⟨z', h1, h2⟩ := (reps_all.mp p2).get e
    have hlt : k.toNat < vs.length := (List.getElem?_eq_some_iff.mp h1).1
    have hS : sizeLine = 16777216 := by decide +kernel
    refine PyProof.Rows.getItem_tuple (j := k.toNat) (I.isin.tup p1) (by lia) (by lia) ?_ (by simpa using h1) (Post1.same I h h2)
    have hk : ¬ k < 0 := by lia
    have hk2 : (decide (0 ≤ k) && decide (k < (vs.length : Int))) = true := by simp only [Bool.and_eq_true, decide_eq_true_eq]; lia
    simp only [seqIndex?, hk, if_false, List.size_toArray, hk2, if_true]

  case str x =>
    obtain ⟨⟨t, rfl⟩, o1, l1⟩ := hv
    obtain ⟨t', rfl⟩ := hu
    obtain ⟨z, e, h⟩ := optR_wp h
    obtain ⟨hlt, hz⟩ := Array.getElem?_eq_some_iff.mp e
    have hL : LIM = 1000000 := rfl
    refine PySem.P.getItem_str (c := z) ?_ ?_ (Post1.tok I h ⟨⟨_, rfl⟩, ?_, Nat.le_of_lt (show 1 < LIM by decide)⟩ _)
    · rw [Bool.or_eq_false_iff, decide_eq_false_iff_not, decide_eq_false_iff_not]; lia
    · have hk : ¬ k < 0 := by lia
      have hk2 : (decide (0 ≤ k) && decide (k < (x.cps.size : Int))) = true := by simp only [Bool.and_eq_true, decide_eq_true_eq]; lia
      simp only [seqIndex?, hk, if_false, Str.length, hk2, if_true]
      exact e
    · have := Array.all_eq_true.mp o1 k.toNat hlt
      rw [hz] at this
      simpa [okS] using this

theorem getitem_own (I : Inv fr F names K P ad σ s) {x y : D} {a : Addr} {u : Value} (hv : OwnAt P s.heap a x) (hu : Rep P y u) (h : (getitem x y).wp (Post1 fr F names K P ad σ s Q) X) :
    wpAny (model prog w) A (getItem (.ref a) u) Q E s := by
  cases y <;> first | exact h.elim | skip
  rename_i k
  replace h := wp_ite h
  obtain ⟨h0, h⟩ := h
  cases x <;> first | exact hv.elim | skip
  case ilist ns =>
    obtain ⟨vs, n, p1, p2, p3⟩ := hv
    obtain ⟨t, rfl⟩ := hu
    obtain ⟨z, e, h⟩ := optR_wp h
    obtain ⟨z', h1, t', rfl⟩ := p2.get e
    have hlt : k.toNat < vs.length := (List.getElem?_eq_some_iff.mp h1).1
    have hS : sizeLine = 16777216 := by decide +kernel
    exact wpAny_getItem_list ⟨_, p1, rfl, n, rfl⟩ h0 (by lia) (by simpa using h1) (Post1.same I h ⟨_, rfl⟩)
  case list xs =>
    obtain ⟨vs, n, p1, p2, p3⟩ := hv
    obtain ⟨t, rfl⟩ := hu
    obtain ⟨z, e, h⟩ := optR_wp h
    obtain ⟨z', h1, h2⟩ := p2.get e
    have hlt : k.toNat < vs.length := (List.getElem?_eq_some_iff.mp h1).1
    have hS : sizeLine = 16777216 := by decide +kernel
    exact wpAny_getItem_list ⟨_, p1, rfl, n, rfl⟩ h0 (by lia) (by simpa using h1) (Post1.same I h h2)

theorem len_ok (I : Inv fr F names K P ad σ s) {x : D} {v : Value} (hv : Rep P x v) (h : (lenOf x).wp (Post1 fr F names K P ad σ s Q) X) :
    wpAny (model prog w) A (call (.builtin "len") [v]) Q E s := by
  have hS : sizeLine = 16777216 := by decide +kernel
  cases x <;> first | exact h.elim | skip
  case str a =>
    obtain ⟨⟨t, rfl⟩, o1, l1⟩ := hv
    have hL : LIM = 1000000 := rfl
    have : (a.length : Int) ≤ 1000000 := by simp only [Str.length]; lia
    exact PySem.P.len_str (by lia) (Post1.tok I h ⟨_, rfl⟩ _)
  case ilist ns =>
    obtain ⟨a, vs, n, rfl, p1, p2, p3⟩ := hv
    have e : (vs.toArray.size : Int) = (ns.length : Int) := by rw [List.size_toArray, p2.length]
    exact Calls.call_len_list (I.isin.list p1) (by simp only [List.size_toArray]; lia) (Post1.tok I h ⟨_, by rw [e]⟩ _)
  case list xs =>
    obtain ⟨a, vs, n, rfl, p1, p2, p3⟩ := hv
    have e : (vs.toArray.size : Int) = (xs.length : Int) := by rw [List.size_toArray, (reps_all.mp p2).length]
    exact Calls.call_len_list (I.isin.list p1) (by simp only [List.size_toArray]; lia) (Post1.tok I h ⟨_, by rw [e]⟩ _)
  case tup xs =>
    obtain ⟨a, vs, n, rfl, p1, p2, p3⟩ := hv
    have e : (vs.toArray.size : Int) = (xs.length : Int) := by rw [List.size_toArray, (reps_all.mp p2).length]
    exact PyProof.Rows.len_tuple (I.isin.tup p1) (by simp only [List.size_toArray]; lia) (Post1.tok I h ⟨_, by rw [e]⟩ _)
theorem len_own (I : Inv fr F names K P ad σ s) {x : D} {a : Addr} (hv : OwnAt P s.heap a x) (h : (lenOf x).wp (Post1 fr F names K P ad σ s Q) X) :
    wpAny (model prog w) A (call (.builtin "len") [.ref a]) Q E s := by
  have hS : sizeLine = 16777216 := by decide +kernel
  cases x <;> first | exact h.elim | exact hv.elim | skip
  case ilist ns =>
    obtain ⟨vs, n, p1, p2, p3⟩ := hv
    have e : (vs.toArray.size : Int) = (ns.length : Int) := by rw [List.size_toArray, p2.length]
    exact Calls.call_len_list ⟨_, p1, rfl, n, rfl⟩ (by simp only [List.size_toArray]; lia) (Post1.tok I h ⟨_, by rw [e]⟩ _)
  case list xs =>
    obtain ⟨vs, n, p1, p2, p3⟩ := hv
    have e : (vs.toArray.size : Int) = (xs.length : Int) := by rw [List.size_toArray, p2.length]
    exact Calls.call_len_list ⟨_, p1, rfl, n, rfl⟩ (by simp only [List.size_toArray]; lia) (Post1.tok I h ⟨_, by rw [e]⟩ _)

mutual
theorem repReads {h : Heap} (hin : In P h) : ∀ {d : D} {v : Value}, Rep P d v → ∃ as, Reads h v (toPy d) as
  | .none, _, e => by cases e; exact ⟨_, .none⟩
  | .bool b, _, e => by cases e; exact ⟨_, .bool b⟩
  | .int _, _, ⟨t, e⟩ => by cases e; exact ⟨_, .int _ t⟩
  | .str _, _, ⟨⟨t, e⟩, _⟩ => by cases e; exact ⟨_, .str _ t⟩
  | .ilist ns, _, ⟨a, vs, n, e, h1, h2, _⟩ => by
    subst e
    have : ∀ {ns : List Int} {vs : List Value}, AllV IsI ns vs → ReadsAll h vs (ns.map .int) [] := by
      intro ns
      induction ns with
      | nil => intro vs x; cases x; exact .nil
      | cons m r ih =>
        rintro vs ⟨v, vs', rfl, ⟨t, rfl⟩, x⟩
        exact .cons (as := []) (.int m t) (ih x)
    exact ⟨_, .list (hin _ _ h1).1 rfl rfl (by simpa using this h2)⟩
  | .list xs, _, ⟨a, vs, n, e, h1, h2, _⟩ => by
    subst e
    obtain ⟨as, q⟩ := repsReads hin h2
    exact ⟨_, .list (hin _ _ h1).1 rfl rfl (by simpa using q)⟩
  | .tup xs, _, ⟨a, vs, n, e, h1, h2, _⟩ => by
    subst e
    obtain ⟨as, q⟩ := repsReads hin h2
    exact ⟨_, .tuple (hin _ _ h1).1 rfl rfl (by simpa using q)⟩
theorem repsReads {h : Heap} (hin : In P h) : ∀ {ds : List D} {vs : List Value}, Reps P ds vs → ∃ as, ReadsAll h vs (toPys ds) as
  | [], _, e => by cases e; exact ⟨_, .nil⟩
  | d :: r, _, ⟨v, vs', e, h1, h2⟩ => by
    subst e
    obtain ⟨as, q1⟩ := repReads hin h1
    obtain ⟨bs, q2⟩ := repsReads hin h2
    exact ⟨_, .cons q1 q2⟩
end

mutual
theorem repLay : ∀ {d : D} {v : Value}, Rep P d v → (toPy d).canLay0 = true
  | .none, _, _ => rfl
  | .bool _, _, _ => rfl
  | .int _, _, _ => rfl
  | .str x, _, ⟨_, e, _⟩ => by simp only [toPy, PyData.canLay0]; exact e
  | .ilist ns, _, _ => by
    have : ∀ ns : List Int, PyData.canLayAll0 (ns.map .int) = true := by
      intro ns; induction ns with
      | nil => rfl
      | cons m r ih => simp [PyData.canLayAll0, PyData.canLay0, ih]
    simp [toPy, PyData.canLay0, this]
  | .list xs, _, ⟨_, _, _, _, _, h2, _⟩ => by simp [toPy, PyData.canLay0, repsLay h2]
  | .tup xs, _, ⟨_, _, _, _, _, h2, _⟩ => by simp [toPy, PyData.canLay0, repsLay h2]
theorem repsLay : ∀ {ds : List D} {vs : List Value}, Reps P ds vs → PyData.canLayAll0 (toPys ds) = true
  | [], _, _ => rfl
  | d :: r, _, ⟨v, vs', e, h1, h2⟩ => by simp [toPys, PyData.canLayAll0, repLay h1, repsLay h2]
end

mutual
theorem dep_eq : ∀ d : D, (toPy d).depth ≤ dep d
  | .none => by simp [toPy, PyData.depth, dep]
  | .bool _ => by simp [toPy, PyData.depth, dep]
  | .int _ => by simp [toPy, PyData.depth, dep]
  | .str _ => by simp [toPy, PyData.depth, dep]
  | .ilist ns => by
    have : ∀ ns : List Int, PyData.depthAll (ns.map .int) = 0 := by
      intro ns; induction ns with
      | nil => rfl
      | cons m r ih => simp [PyData.depthAll, PyData.depth, ih]
    simp [toPy, PyData.depth, dep, this]
  | .list xs => by simp only [toPy, PyData.depth, dep]; exact Nat.succ_le_succ (deps_eq xs)
  | .tup xs => by simp only [toPy, PyData.depth, dep]; exact Nat.succ_le_succ (deps_eq xs)
theorem deps_eq : ∀ ds : List D, PyData.depthAll (toPys ds) ≤ deps ds
  | [] => Nat.le_refl _
  | d :: r => by
    simp only [toPys, PyData.depthAll, deps]
    have h1 := dep_eq d
    have h2 := deps_eq r
    exact Nat.max_le.mpr ⟨Nat.le_trans h1 (Nat.le_max_left ..), Nat.le_trans h2 (Nat.le_max_right ..)⟩
end

theorem dig_occ : ∀ c : Nat, c < 64 → (!(!(Builtin.Str.occurrences (Str.ofString "0123456789") ⟨#[c]⟩ 0 (Str.ofString "0123456789").length 1).isEmpty)) = !decide (48 ≤ c ∧ c ≤ 57) := by decide +kernel
theorem cmpop_ok (hun : A.units + 100 < cLine) (I : Inv fr F names K P ad σ s) {op : Cop} {x y : D} {v u : Value} (hv : Rep P x v) (hu : Rep P y u) (h : (cmpop op x y).wp (Post1 fr F names K P ad σ s Q) X) :
    wpAny (model prog w) A (compareOp (copOf op) v u) Q E s := by
  have room : dep x ≤ 20 → A.units + min (toPy x).depth (toPy y).depth < cLine := fun hd => by
    have h1 := dep_eq x
    have h2 : min (toPy x).depth (toPy y).depth ≤ (toPy x).depth := Nat.min_le_left _ _
    lia
  cases op
  case lt =>
    obtain ⟨a, b, rfl, rfl, h⟩ := intsD_wp h
    obtain ⟨t, rfl⟩ := hv; obtain ⟨t', rfl⟩ := hu
    exact PySem.P.lt_int (Post1.same I h rfl)
  case le =>
    obtain ⟨a, b, rfl, rfl, h⟩ := intsD_wp h
    obtain ⟨t, rfl⟩ := hv; obtain ⟨t', rfl⟩ := hu
    exact PySem.P.le_int (Post1.same I h rfl)
  case gt =>
    obtain ⟨a, b, rfl, rfl, h⟩ := intsD_wp h
    obtain ⟨t, rfl⟩ := hv; obtain ⟨t', rfl⟩ := hu
    exact PySem.P.gt_int (Post1.same I h rfl)
  case ge =>
    obtain ⟨a, b, rfl, rfl, h⟩ := intsD_wp h
    obtain ⟨t, rfl⟩ := hv; obtain ⟨t', rfl⟩ := hu
    exact PySem.P.ge_int (Post1.same I h rfl)
  case eq =>
    obtain ⟨hd, h⟩ := wp_ite h
    obtain ⟨as, ra⟩ := repReads I.isin hv
    obtain ⟨bs, rb⟩ := repReads I.isin hu
    exact SeqAt.compareEq_reads ra rb (repLay hv) (repLay hu) (room hd) (Post1.same I h rfl)
  case ne =>
    obtain ⟨hd, h⟩ := wp_ite h
    obtain ⟨as, ra⟩ := repReads I.isin hv
    obtain ⟨bs, rb⟩ := repReads I.isin hu
    exact SeqAt.compareNe_reads ra rb (repLay hv) (repLay hu) (room hd) (Post1.same I h rfl)
  case notIn =>
    cases x <;> first | exact h.elim | (cases y <;> first | exact h.elim | skip)
    case str.str a b =>
      obtain ⟨⟨t, rfl⟩, _, _⟩ := hv
      obtain ⟨⟨t', rfl⟩, _, _⟩ := hu
      obtain ⟨l, e⟩ : ∃ l, a.cps.toList = l := ⟨_, rfl⟩
      have h' : (match l with | [c] => if b = Str.ofString "0123456789" ∧ c < 64 then Res.ok (D.bool (!decide (48 ≤ c ∧ c ≤ 57))) else .stuck | _ => .stuck).wp (Post1 fr F names K P ad σ s Q) X := by rw [← e]; exact h
      rcases l with _ | ⟨c, _ | ⟨_, _⟩⟩
      · exact h'.elim
      · obtain ⟨⟨rfl, hc⟩, h2⟩ := wp_ite h'
        have ea : a = ⟨#[c]⟩ := Str.ext' (Array.ext' e)
        subst ea
        refine PySem.P.notIn_str ?_
        rw [dig_occ c hc]
        exact Post1.same I h2 rfl
      · exact h'.elim
end
end Lim

/-! Small views of the text's nodes, in continuation style. -/
namespace Lim
open PySem

noncomputable def onName (e : Expr) (k : Str → Pos → Bool) : Bool := if h : e.ctorIdx = 23 then Expr.Name.elim (motive_1 := fun _ => Bool) e h k else false
theorem onName_inv {e : Expr} {k : Str → Pos → Bool} (h : onName e k = true) : ∃ x p, e = Expr.Name x p ∧ k x p = true := by
  unfold onName at h
  split at h
  · rename_i q
    revert h
    exact Expr.Name.elim (motive_1 := fun e => ∀ q : e.ctorIdx = 23, Expr.Name.elim (motive_1 := fun _ => Bool) e q k = true → ∃ x p, e = Expr.Name x p ∧ k x p = true) e q (fun x p q h => ⟨x, p, rfl, h⟩) q
  · cases h
noncomputable def onConstant (e : Expr) (k : Const → Nat → Pos → Bool) : Bool := if h : e.ctorIdx = 19 then Expr.Constant.elim (motive_1 := fun _ => Bool) e h k else false
theorem onConstant_inv {e : Expr} {k : Const → Nat → Pos → Bool} (h : onConstant e k = true) : ∃ c n p, e = Expr.Constant c n p ∧ k c n p = true := by
  unfold onConstant at h
  split at h
  · rename_i q
    revert h
    exact Expr.Constant.elim (motive_1 := fun e => ∀ q : e.ctorIdx = 19, Expr.Constant.elim (motive_1 := fun _ => Bool) e q k = true → ∃ c n p, e = Expr.Constant c n p ∧ k c n p = true) e q (fun c n p q h => ⟨c, n, p, rfl, h⟩) q
  · cases h
noncomputable def onBinOp (e : Expr) (k : Expr → Operator → Expr → Pos → Bool) : Bool := if h : e.ctorIdx = 2 then Expr.BinOp.elim (motive_1 := fun _ => Bool) e h k else false
theorem onBinOp_inv {e : Expr} {k : Expr → Operator → Expr → Pos → Bool} (h : onBinOp e k = true) : ∃ l o r p, e = Expr.BinOp l o r p ∧ k l o r p = true := by
  unfold onBinOp at h
  split at h
  · rename_i q
    revert h
    exact Expr.BinOp.elim (motive_1 := fun e => ∀ q : e.ctorIdx = 2, Expr.BinOp.elim (motive_1 := fun _ => Bool) e q k = true → ∃ l o r p, e = Expr.BinOp l o r p ∧ k l o r p = true) e q (fun l o r p q h => ⟨l, o, r, p, rfl, h⟩) q
  · cases h
noncomputable def onUnaryOp (e : Expr) (k : UnaryOp → Expr → Pos → Bool) : Bool := if h : e.ctorIdx = 3 then Expr.UnaryOp.elim (motive_1 := fun _ => Bool) e h k else false
theorem onUnaryOp_inv {e : Expr} {k : UnaryOp → Expr → Pos → Bool} (h : onUnaryOp e k = true) : ∃ o x p, e = Expr.UnaryOp o x p ∧ k o x p = true := by
  unfold onUnaryOp at h
  split at h
  · rename_i q
    revert h
    exact Expr.UnaryOp.elim (motive_1 := fun e => ∀ q : e.ctorIdx = 3, Expr.UnaryOp.elim (motive_1 := fun _ => Bool) e q k = true → ∃ o x p, e = Expr.UnaryOp o x p ∧ k o x p = true) e q (fun o x p q h => ⟨o, x, p, rfl, h⟩) q
  · cases h
noncomputable def onCompare (e : Expr) (k : Expr → List CmpOp → List Expr → Pos → Bool) : Bool := if h : e.ctorIdx = 15 then Expr.Compare.elim (motive_1 := fun _ => Bool) e h k else false
theorem onCompare_inv {e : Expr} {k : Expr → List CmpOp → List Expr → Pos → Bool} (h : onCompare e k = true) : ∃ l o r p, e = Expr.Compare l o r p ∧ k l o r p = true := by
  unfold onCompare at h
  split at h
  · rename_i q
    revert h
    exact Expr.Compare.elim (motive_1 := fun e => ∀ q : e.ctorIdx = 15, Expr.Compare.elim (motive_1 := fun _ => Bool) e q k = true → ∃ l o r p, e = Expr.Compare l o r p ∧ k l o r p = true) e q (fun l o r p q h => ⟨l, o, r, p, rfl, h⟩) q
  · cases h
noncomputable def onIfExp (e : Expr) (k : Expr → Expr → Expr → Pos → Bool) : Bool := if h : e.ctorIdx = 5 then Expr.IfExp.elim (motive_1 := fun _ => Bool) e h k else false
theorem onIfExp_inv {e : Expr} {k : Expr → Expr → Expr → Pos → Bool} (h : onIfExp e k = true) : ∃ t x y p, e = Expr.IfExp t x y p ∧ k t x y p = true := by
  unfold onIfExp at h
  split at h
  · rename_i q
    revert h
    exact Expr.IfExp.elim (motive_1 := fun e => ∀ q : e.ctorIdx = 5, Expr.IfExp.elim (motive_1 := fun _ => Bool) e q k = true → ∃ t x y p, e = Expr.IfExp t x y p ∧ k t x y p = true) e q (fun t x y p q h => ⟨t, x, y, p, rfl, h⟩) q
  · cases h
noncomputable def onSubscript (e : Expr) (k : Expr → Expr → Pos → Bool) : Bool := if h : e.ctorIdx = 21 then Expr.Subscript.elim (motive_1 := fun _ => Bool) e h k else false
theorem onSubscript_inv {e : Expr} {k : Expr → Expr → Pos → Bool} (h : onSubscript e k = true) : ∃ v sl p, e = Expr.Subscript v sl p ∧ k v sl p = true := by
  unfold onSubscript at h
  split at h
  · rename_i q
    revert h
    exact Expr.Subscript.elim (motive_1 := fun e => ∀ q : e.ctorIdx = 21, Expr.Subscript.elim (motive_1 := fun _ => Bool) e q k = true → ∃ v sl p, e = Expr.Subscript v sl p ∧ k v sl p = true) e q (fun v sl p q h => ⟨v, sl, p, rfl, h⟩) q
  · cases h
noncomputable def onSlice (e : Expr) (k : Option Expr → Option Expr → Option Expr → Pos → Bool) : Bool := if h : e.ctorIdx = 26 then Expr.Slice.elim (motive_1 := fun _ => Bool) e h k else false
theorem onSlice_inv {e : Expr} {k : Option Expr → Option Expr → Option Expr → Pos → Bool} (h : onSlice e k = true) : ∃ l u st p, e = Expr.Slice l u st p ∧ k l u st p = true := by
  unfold onSlice at h
  split at h
  · rename_i q
    revert h
    exact Expr.Slice.elim (motive_1 := fun e => ∀ q : e.ctorIdx = 26, Expr.Slice.elim (motive_1 := fun _ => Bool) e q k = true → ∃ l u st p, e = Expr.Slice l u st p ∧ k l u st p = true) e q (fun l u st p q h => ⟨l, u, st, p, rfl, h⟩) q
  · cases h
noncomputable def onCall (e : Expr) (k : Expr → List Expr → List Keyword → Pos → Bool) : Bool := if h : e.ctorIdx = 16 then Expr.Call.elim (motive_1 := fun _ => Bool) e h k else false
theorem onCall_inv {e : Expr} {k : Expr → List Expr → List Keyword → Pos → Bool} (h : onCall e k = true) : ∃ f as ks p, e = Expr.Call f as ks p ∧ k f as ks p = true := by
  unfold onCall at h
  split at h
  · rename_i q
    revert h
    exact Expr.Call.elim (motive_1 := fun e => ∀ q : e.ctorIdx = 16, Expr.Call.elim (motive_1 := fun _ => Bool) e q k = true → ∃ f as ks p, e = Expr.Call f as ks p ∧ k f as ks p = true) e q (fun f as ks p q h => ⟨f, as, ks, p, rfl, h⟩) q
  · cases h
noncomputable def onAttribute (e : Expr) (k : Expr → Str → Pos → Bool) : Bool := if h : e.ctorIdx = 20 then Expr.Attribute.elim (motive_1 := fun _ => Bool) e h k else false
theorem onAttribute_inv {e : Expr} {k : Expr → Str → Pos → Bool} (h : onAttribute e k = true) : ∃ v a p, e = Expr.Attribute v a p ∧ k v a p = true := by
  unfold onAttribute at h
  split at h
  · rename_i q
    revert h
    exact Expr.Attribute.elim (motive_1 := fun e => ∀ q : e.ctorIdx = 20, Expr.Attribute.elim (motive_1 := fun _ => Bool) e q k = true → ∃ v a p, e = Expr.Attribute v a p ∧ k v a p = true) e q (fun v a p q h => ⟨v, a, p, rfl, h⟩) q
  · cases h
noncomputable def onTuple (e : Expr) (k : List Expr → Nat → Pos → Bool) : Bool := if h : e.ctorIdx = 25 then Expr.Tuple.elim (motive_1 := fun _ => Bool) e h k else false
theorem onTuple_inv {e : Expr} {k : List Expr → Nat → Pos → Bool} (h : onTuple e k = true) : ∃ xs n p, e = Expr.Tuple xs n p ∧ k xs n p = true := by
  unfold onTuple at h
  split at h
  · rename_i q
    revert h
    exact Expr.Tuple.elim (motive_1 := fun e => ∀ q : e.ctorIdx = 25, Expr.Tuple.elim (motive_1 := fun _ => Bool) e q k = true → ∃ xs n p, e = Expr.Tuple xs n p ∧ k xs n p = true) e q (fun xs n p q h => ⟨xs, n, p, rfl, h⟩) q
  · cases h
noncomputable def onList (e : Expr) (k : List Expr → Pos → Bool) : Bool := if h : e.ctorIdx = 24 then Expr.List.elim (motive_1 := fun _ => Bool) e h k else false
theorem onList_inv {e : Expr} {k : List Expr → Pos → Bool} (h : onList e k = true) : ∃ xs p, e = Expr.List xs p ∧ k xs p = true := by
  unfold onList at h
  split at h
  · rename_i q
    revert h
    exact Expr.List.elim (motive_1 := fun e => ∀ q : e.ctorIdx = 24, Expr.List.elim (motive_1 := fun _ => Bool) e q k = true → ∃ xs p, e = Expr.List xs p ∧ k xs p = true) e q (fun xs p q h => ⟨xs, p, rfl, h⟩) q
  · cases h
noncomputable def onBoolOp (e : Expr) (k : BoolOp → List Expr → Pos → Bool) : Bool := if h : e.ctorIdx = 0 then Expr.BoolOp.elim (motive_1 := fun _ => Bool) e h k else false
theorem onBoolOp_inv {e : Expr} {k : BoolOp → List Expr → Pos → Bool} (h : onBoolOp e k = true) : ∃ o xs p, e = Expr.BoolOp o xs p ∧ k o xs p = true := by
  unfold onBoolOp at h
  split at h
  · rename_i q
    revert h
    exact Expr.BoolOp.elim (motive_1 := fun e => ∀ q : e.ctorIdx = 0, Expr.BoolOp.elim (motive_1 := fun _ => Bool) e q k = true → ∃ o xs p, e = Expr.BoolOp o xs p ∧ k o xs p = true) e q (fun o xs p q h => ⟨o, xs, p, rfl, h⟩) q
  · cases h
noncomputable def onListComp (e : Expr) (k : Expr → List Comprehension → Scope → Pos → Bool) : Bool := if h : e.ctorIdx = 8 then Expr.ListComp.elim (motive_1 := fun _ => Bool) e h k else false
theorem onListComp_inv {e : Expr} {k : Expr → List Comprehension → Scope → Pos → Bool} (h : onListComp e k = true) : ∃ el gs sc p, e = Expr.ListComp el gs sc p ∧ k el gs sc p = true := by
  unfold onListComp at h
  split at h
  · rename_i q
    revert h
    exact Expr.ListComp.elim (motive_1 := fun e => ∀ q : e.ctorIdx = 8, Expr.ListComp.elim (motive_1 := fun _ => Bool) e q k = true → ∃ el gs sc p, e = Expr.ListComp el gs sc p ∧ k el gs sc p = true) e q (fun el gs sc p q h => ⟨el, gs, sc, p, rfl, h⟩) q
  · cases h
noncomputable def atAssign (e : Stmt) (k : List Expr → Expr → Pos → Bool) : Bool := if h : e.ctorIdx = 5 then Stmt.Assign.elim (motive_2 := fun _ => Bool) e h k else false
theorem atAssign_inv {e : Stmt} {k : List Expr → Expr → Pos → Bool} (h : atAssign e k = true) : ∃ ts v p, e = Stmt.Assign ts v p ∧ k ts v p = true := by
  unfold atAssign at h
  split at h
  · rename_i q
    revert h
    exact Stmt.Assign.elim (motive_2 := fun e => ∀ q : e.ctorIdx = 5, Stmt.Assign.elim (motive_2 := fun _ => Bool) e q k = true → ∃ ts v p, e = Stmt.Assign ts v p ∧ k ts v p = true) e q (fun ts v p q h => ⟨ts, v, p, rfl, h⟩) q
  · cases h
noncomputable def atAugAssign (e : Stmt) (k : Expr → Operator → Expr → Pos → Bool) : Bool := if h : e.ctorIdx = 7 then Stmt.AugAssign.elim (motive_2 := fun _ => Bool) e h k else false
theorem atAugAssign_inv {e : Stmt} {k : Expr → Operator → Expr → Pos → Bool} (h : atAugAssign e k = true) : ∃ t o v p, e = Stmt.AugAssign t o v p ∧ k t o v p = true := by
  unfold atAugAssign at h
  split at h
  · rename_i q
    revert h
    exact Stmt.AugAssign.elim (motive_2 := fun e => ∀ q : e.ctorIdx = 7, Stmt.AugAssign.elim (motive_2 := fun _ => Bool) e q k = true → ∃ t o v p, e = Stmt.AugAssign t o v p ∧ k t o v p = true) e q (fun t o v p q h => ⟨t, o, v, p, rfl, h⟩) q
  · cases h
noncomputable def atExpr (e : Stmt) (k : Expr → Pos → Bool) : Bool := if h : e.ctorIdx = 24 then Stmt.Expr.elim (motive_2 := fun _ => Bool) e h k else false
theorem atExpr_inv {e : Stmt} {k : Expr → Pos → Bool} (h : atExpr e k = true) : ∃ v p, e = Stmt.Expr v p ∧ k v p = true := by
  unfold atExpr at h
  split at h
  · rename_i q
    revert h
    exact Stmt.Expr.elim (motive_2 := fun e => ∀ q : e.ctorIdx = 24, Stmt.Expr.elim (motive_2 := fun _ => Bool) e q k = true → ∃ v p, e = Stmt.Expr v p ∧ k v p = true) e q (fun v p q h => ⟨v, p, rfl, h⟩) q
  · cases h
noncomputable def atIf (e : Stmt) (k : Expr → List Stmt → List Stmt → Pos → Bool) : Bool := if h : e.ctorIdx = 12 then Stmt.If.elim (motive_2 := fun _ => Bool) e h k else false
theorem atIf_inv {e : Stmt} {k : Expr → List Stmt → List Stmt → Pos → Bool} (h : atIf e k = true) : ∃ t a b p, e = Stmt.If t a b p ∧ k t a b p = true := by
  unfold atIf at h
  split at h
  · rename_i q
    revert h
    exact Stmt.If.elim (motive_2 := fun e => ∀ q : e.ctorIdx = 12, Stmt.If.elim (motive_2 := fun _ => Bool) e q k = true → ∃ t a b p, e = Stmt.If t a b p ∧ k t a b p = true) e q (fun t a b p q h => ⟨t, a, b, p, rfl, h⟩) q
  · cases h
noncomputable def atWhile (e : Stmt) (k : Expr → List Stmt → List Stmt → Pos → Bool) : Bool := if h : e.ctorIdx = 11 then Stmt.While.elim (motive_2 := fun _ => Bool) e h k else false
theorem atWhile_inv {e : Stmt} {k : Expr → List Stmt → List Stmt → Pos → Bool} (h : atWhile e k = true) : ∃ t a b p, e = Stmt.While t a b p ∧ k t a b p = true := by
  unfold atWhile at h
  split at h
  · rename_i q
    revert h
    exact Stmt.While.elim (motive_2 := fun e => ∀ q : e.ctorIdx = 11, Stmt.While.elim (motive_2 := fun _ => Bool) e q k = true → ∃ t a b p, e = Stmt.While t a b p ∧ k t a b p = true) e q (fun t a b p q h => ⟨t, a, b, p, rfl, h⟩) q
  · cases h
noncomputable def atFor (e : Stmt) (k : Expr → Expr → List Stmt → List Stmt → Pos → Bool) : Bool := if h : e.ctorIdx = 9 then Stmt.For.elim (motive_2 := fun _ => Bool) e h k else false
theorem atFor_inv {e : Stmt} {k : Expr → Expr → List Stmt → List Stmt → Pos → Bool} (h : atFor e k = true) : ∃ t i a b p, e = Stmt.For t i a b p ∧ k t i a b p = true := by
  unfold atFor at h
  split at h
  · rename_i q
    revert h
    exact Stmt.For.elim (motive_2 := fun e => ∀ q : e.ctorIdx = 9, Stmt.For.elim (motive_2 := fun _ => Bool) e q k = true → ∃ t i a b p, e = Stmt.For t i a b p ∧ k t i a b p = true) e q (fun t i a b p q h => ⟨t, i, a, b, p, rfl, h⟩) q
  · cases h
noncomputable def atReturn (e : Stmt) (k : Option Expr → Pos → Bool) : Bool := if h : e.ctorIdx = 3 then Stmt.Return.elim (motive_2 := fun _ => Bool) e h k else false
theorem atReturn_inv {e : Stmt} {k : Option Expr → Pos → Bool} (h : atReturn e k = true) : ∃ v p, e = Stmt.Return v p ∧ k v p = true := by
  unfold atReturn at h
  split at h
  · rename_i q
    revert h
    exact Stmt.Return.elim (motive_2 := fun e => ∀ q : e.ctorIdx = 3, Stmt.Return.elim (motive_2 := fun _ => Bool) e q k = true → ∃ v p, e = Stmt.Return v p ∧ k v p = true) e q (fun v p q h => ⟨v, p, rfl, h⟩) q
  · cases h
noncomputable def atRaise (e : Stmt) (k : Option Expr → Option Expr → Pos → Bool) : Bool := if h : e.ctorIdx = 16 then Stmt.Raise.elim (motive_2 := fun _ => Bool) e h k else false
theorem atRaise_inv {e : Stmt} {k : Option Expr → Option Expr → Pos → Bool} (h : atRaise e k = true) : ∃ v c p, e = Stmt.Raise v c p ∧ k v c p = true := by
  unfold atRaise at h
  split at h
  · rename_i q
    revert h
    exact Stmt.Raise.elim (motive_2 := fun e => ∀ q : e.ctorIdx = 16, Stmt.Raise.elim (motive_2 := fun _ => Bool) e q k = true → ∃ v c p, e = Stmt.Raise v c p ∧ k v c p = true) e q (fun v c p q h => ⟨v, c, p, rfl, h⟩) q
  · cases h
noncomputable def atTry (e : Stmt) (k : List Stmt → List ExceptHandler → List Stmt → List Stmt → Pos → Bool) : Bool := if h : e.ctorIdx = 17 then Stmt.Try.elim (motive_2 := fun _ => Bool) e h k else false
theorem atTry_inv {e : Stmt} {k : List Stmt → List ExceptHandler → List Stmt → List Stmt → Pos → Bool} (h : atTry e k = true) : ∃ a hs b c p, e = Stmt.Try a hs b c p ∧ k a hs b c p = true := by
  unfold atTry at h
  split at h
  · rename_i q
    revert h
    exact Stmt.Try.elim (motive_2 := fun e => ∀ q : e.ctorIdx = 17, Stmt.Try.elim (motive_2 := fun _ => Bool) e q k = true → ∃ a hs b c p, e = Stmt.Try a hs b c p ∧ k a hs b c p = true) e q (fun a hs b c p q h => ⟨a, hs, b, c, p, rfl, h⟩) q
  · cases h
noncomputable def atContinue (e : Stmt) (k : Pos → Bool) : Bool := if h : e.ctorIdx = 27 then Stmt.Continue.elim (motive_2 := fun _ => Bool) e h k else false
theorem atContinue_inv {e : Stmt} {k : Pos → Bool} (h : atContinue e k = true) : ∃ p, e = Stmt.Continue p ∧ k p = true := by
  unfold atContinue at h
  split at h
  · rename_i q
    revert h
    exact Stmt.Continue.elim (motive_2 := fun e => ∀ q : e.ctorIdx = 27, Stmt.Continue.elim (motive_2 := fun _ => Bool) e q k = true → ∃ p, e = Stmt.Continue p ∧ k p = true) e q (fun p q h => ⟨p, rfl, h⟩) q
  · cases h
noncomputable def cnone (e : Const) (k : Bool) : Bool := if h : e.ctorIdx = 0 then Const.none.elim (motive := fun _ => Bool) e h k else false
theorem cnone_inv {e : Const} {k : Bool} (h : cnone e k = true) : e = Const.none ∧ k = true := by
  unfold cnone at h
  split at h
  · rename_i q
    revert h
    exact Const.none.elim (motive := fun e => ∀ q : e.ctorIdx = 0, Const.none.elim (motive := fun _ => Bool) e q k = true → e = Const.none ∧ k = true) e q (fun q h => ⟨rfl, h⟩) q
  · cases h
noncomputable def cbool (e : Const) (k : Bool → Bool) : Bool := if h : e.ctorIdx = 1 then Const.bool.elim (motive := fun _ => Bool) e h k else false
theorem cbool_inv {e : Const} {k : Bool → Bool} (h : cbool e k = true) : ∃ b, e = Const.bool b ∧ k b = true := by
  unfold cbool at h
  split at h
  · rename_i q
    revert h
    exact Const.bool.elim (motive := fun e => ∀ q : e.ctorIdx = 1, Const.bool.elim (motive := fun _ => Bool) e q k = true → ∃ b, e = Const.bool b ∧ k b = true) e q (fun b q h => ⟨b, rfl, h⟩) q
  · cases h
noncomputable def cint (e : Const) (k : Int → Bool) : Bool := if h : e.ctorIdx = 2 then Const.int.elim (motive := fun _ => Bool) e h k else false
theorem cint_inv {e : Const} {k : Int → Bool} (h : cint e k = true) : ∃ b, e = Const.int b ∧ k b = true := by
  unfold cint at h
  split at h
  · rename_i q
    revert h
    exact Const.int.elim (motive := fun e => ∀ q : e.ctorIdx = 2, Const.int.elim (motive := fun _ => Bool) e q k = true → ∃ b, e = Const.int b ∧ k b = true) e q (fun b q h => ⟨b, rfl, h⟩) q
  · cases h
noncomputable def cstr (e : Const) (k : Str → Bool) : Bool := if h : e.ctorIdx = 5 then Const.str.elim (motive := fun _ => Bool) e h k else false
theorem cstr_inv {e : Const} {k : Str → Bool} (h : cstr e k = true) : ∃ b, e = Const.str b ∧ k b = true := by
  unfold cstr at h
  split at h
  · rename_i q
    revert h
    exact Const.str.elim (motive := fun e => ∀ q : e.ctorIdx = 5, Const.str.elim (motive := fun _ => Bool) e q k = true → ∃ b, e = Const.str b ∧ k b = true) e q (fun b q h => ⟨b, rfl, h⟩) q
  · cases h

noncomputable def onOne {α : Type} (l : List α) (k : α → Bool) : Bool := match l with | [x] => k x | _ => false
noncomputable def onTwo {α : Type} (l : List α) (k : α → α → Bool) : Bool := match l with | [x, y] => k x y | _ => false
noncomputable def onThree {α : Type} (l : List α) (k : α → α → α → Bool) : Bool := match l with | [x, y, z] => k x y z | _ => false
theorem onOne_inv {α : Type} {l : List α} {k : α → Bool} (h : onOne l k = true) : ∃ x, l = [x] ∧ k x = true := by
  match l with
  | [] => cases h
  | [x] => exact ⟨x, rfl, h⟩
  | _ :: _ :: _ => cases h
theorem onTwo_inv {α : Type} {l : List α} {k : α → α → Bool} (h : onTwo l k = true) : ∃ x y, l = [x, y] ∧ k x y = true := by
  match l with
  | [] => cases h
  | [_] => cases h
  | [x, y] => exact ⟨x, y, rfl, h⟩
  | _ :: _ :: _ :: _ => cases h
theorem onThree_inv {α : Type} {l : List α} {k : α → α → α → Bool} (h : onThree l k = true) : ∃ x y z, l = [x, y, z] ∧ k x y z = true := by
  match l with
  | [] => cases h
  | [_] => cases h
  | [_, _] => cases h
  | [x, y, z] => exact ⟨x, y, z, rfl, h⟩
  | _ :: _ :: _ :: _ :: _ => cases h
noncomputable def onSome {α : Type} (o : Option α) (k : α → Bool) : Bool := match o with | some x => k x | none => false
theorem onSome_inv {α : Type} {o : Option α} {k : α → Bool} (h : onSome o k = true) : ∃ x, o = some x ∧ k x = true := by
  cases o with
  | none => cases h
  | some x => exact ⟨x, rfl, h⟩
theorem and_inv {a b : Bool} (h : (a && b) = true) : a = true ∧ b = true := Bool.and_eq_true_iff.mp h
theorem isNil_inv {α : Type} {l : List α} (h : l.isEmpty = true) : l = [] := List.isEmpty_iff.mp h
theorem isNone_inv {α : Type} {l : Option α} (h : l.isNone = true) : l = none := Option.isNone_iff_eq_none.mp h

noncomputable def onNone (e : Expr) (k : Bool) : Bool := onConstant e fun c _ _ => cnone c k
theorem onNone_inv {e : Expr} {k : Bool} (h : onNone e k = true) : ∃ n p, e = .Constant .none n p ∧ k = true := by
  obtain ⟨c, n, p, rfl, h⟩ := onConstant_inv h; obtain ⟨rfl, h⟩ := cnone_inv h; exact ⟨_, _, rfl, h⟩
noncomputable def onBoolC (e : Expr) (k : Bool → Bool) : Bool := onConstant e fun c _ _ => cbool c k
theorem onBoolC_inv {e : Expr} {k : Bool → Bool} (h : onBoolC e k = true) : ∃ b n p, e = .Constant (.bool b) n p ∧ k b = true := by
  obtain ⟨c, n, p, rfl, h⟩ := onConstant_inv h; obtain ⟨b, rfl, h⟩ := cbool_inv h; exact ⟨_, _, _, rfl, h⟩
noncomputable def onIntC (e : Expr) (k : Int → Bool) : Bool := onConstant e fun c _ _ => cint c k
theorem onIntC_inv {e : Expr} {k : Int → Bool} (h : onIntC e k = true) : ∃ b n p, e = .Constant (.int b) n p ∧ k b = true := by
  obtain ⟨c, n, p, rfl, h⟩ := onConstant_inv h; obtain ⟨b, rfl, h⟩ := cint_inv h; exact ⟨_, _, _, rfl, h⟩
noncomputable def onStrC (e : Expr) (k : Str → Bool) : Bool := onConstant e fun c _ _ => cstr c k
theorem onStrC_inv {e : Expr} {k : Str → Bool} (h : onStrC e k = true) : ∃ b n p, e = .Constant (.str b) n p ∧ k b = true := by
  obtain ⟨c, n, p, rfl, h⟩ := onConstant_inv h; obtain ⟨b, rfl, h⟩ := cstr_inv h; exact ⟨_, _, _, rfl, h⟩
noncomputable def onUn (o : UnaryOp) (e : Expr) (k : Expr → Bool) : Bool := onUnaryOp e fun o' x _ => o' == o && k x
theorem onUn_inv {o : UnaryOp} {e : Expr} {k : Expr → Bool} (h : onUn o e k = true) : ∃ x p, e = .UnaryOp o x p ∧ k x = true := by
  obtain ⟨o', x, p, rfl, g⟩ := onUnaryOp_inv h; obtain ⟨h1, g2⟩ := and_inv g; cases eq_of_beq h1; exact ⟨_, _, rfl, g2⟩
noncomputable def onCmp (e : Expr) (k : Expr → CmpOp → Expr → Bool) : Bool := onCompare e fun l os rs _ => onOne os fun o => onOne rs fun r => k l o r
theorem onCmp_inv {e : Expr} {k : Expr → CmpOp → Expr → Bool} (h : onCmp e k = true) : ∃ l o r p, e = .Compare l [o] [r] p ∧ k l o r = true := by
  obtain ⟨l, os, rs, p, rfl, h⟩ := onCompare_inv h; obtain ⟨o, rfl, h⟩ := onOne_inv h; obtain ⟨r, rfl, h⟩ := onOne_inv h; exact ⟨_, _, _, _, rfl, h⟩
noncomputable def onCallN (e : Expr) (k : Str → List Expr → Bool) : Bool := onCall e fun f as ks _ => onName f fun n _ => ks.isEmpty && k n as
theorem onCallN_inv {e : Expr} {k : Str → List Expr → Bool} (h : onCallN e k = true) : ∃ n pn as p, e = .Call (.Name n pn) as [] p ∧ k n as = true := by
  obtain ⟨f, as, ks, p, rfl, h⟩ := onCall_inv h; obtain ⟨n, pn, rfl, h⟩ := onName_inv h; obtain ⟨h1, h⟩ := and_inv h; cases isNil_inv h1; exact ⟨_, _, _, _, rfl, h⟩
noncomputable def onCall1 (e : Expr) (k : Str → Expr → Bool) : Bool := onCallN e fun n as => onOne as fun x => k n x
theorem onCall1_inv {e : Expr} {k : Str → Expr → Bool} (h : onCall1 e k = true) : ∃ n pn x p, e = .Call (.Name n pn) [x] [] p ∧ k n x = true := by
  obtain ⟨n, pn, as, p, rfl, h⟩ := onCallN_inv h; obtain ⟨x, rfl, h⟩ := onOne_inv h; exact ⟨_, _, _, _, rfl, h⟩
noncomputable def onCall2 (e : Expr) (k : Str → Expr → Expr → Bool) : Bool := onCallN e fun n as => onTwo as fun x y => k n x y
theorem onCall2_inv {e : Expr} {k : Str → Expr → Expr → Bool} (h : onCall2 e k = true) : ∃ n pn x y p, e = .Call (.Name n pn) [x, y] [] p ∧ k n x y = true := by
  obtain ⟨n, pn, as, p, rfl, h⟩ := onCallN_inv h; obtain ⟨x, y, rfl, h⟩ := onTwo_inv h; exact ⟨_, _, _, _, _, rfl, h⟩
noncomputable def onIsInt (e : Expr) (k : Str → Expr → Str → Bool) : Bool := onCmp e fun l o r => o == .Is && onCall1 l fun f x => onName r fun g _ => k f x g
theorem onIsInt_inv {e : Expr} {k : Str → Expr → Str → Bool} (h : onIsInt e k = true) : ∃ f p1 x p2 g p3 p, e = .Compare (.Call (.Name f p1) [x] [] p2) [.Is] [.Name g p3] p ∧ k f x g = true := by
  obtain ⟨l, o, r, p, rfl, h⟩ := onCmp_inv h; obtain ⟨h1, h⟩ := and_inv h; cases eq_of_beq h1
  obtain ⟨f, pf, x, p2, rfl, h⟩ := onCall1_inv h; obtain ⟨g, p3, rfl, h⟩ := onName_inv h; exact ⟨_, _, _, _, _, _, _, rfl, h⟩
noncomputable def onSl (e : Expr) (k : Expr → Option Expr → Option Expr → Bool) : Bool := onSubscript e fun v sl _ => onSlice sl fun l u st _ => st.isNone && k v l u
theorem onSl_inv {e : Expr} {k : Expr → Option Expr → Option Expr → Bool} (h : onSl e k = true) : ∃ v l u ps p, e = .Subscript v (.Slice l u none ps) p ∧ k v l u = true := by
  obtain ⟨v, sl, p, rfl, h⟩ := onSubscript_inv h; obtain ⟨l, u, st, ps, rfl, h⟩ := onSlice_inv h; obtain ⟨h1, h⟩ := and_inv h; cases isNone_inv h1; exact ⟨_, _, _, _, _, rfl, h⟩
noncomputable def onBool2 (o : BoolOp) (e : Expr) (k : Expr → Expr → Bool) : Bool := onBoolOp e fun o' xs _ => o' == o && onTwo xs k
theorem onBool2_inv {o : BoolOp} {e : Expr} {k : Expr → Expr → Bool} (h : onBool2 o e k = true) : ∃ x y p, e = .BoolOp o [x, y] p ∧ k x y = true := by
  obtain ⟨o', xs, p, rfl, g⟩ := onBoolOp_inv h; obtain ⟨h1, g2⟩ := and_inv g; cases eq_of_beq h1; obtain ⟨x, y, rfl, g3⟩ := onTwo_inv g2; exact ⟨_, _, _, rfl, g3⟩
noncomputable def onBool3 (o : BoolOp) (e : Expr) (k : Expr → Expr → Expr → Bool) : Bool := onBoolOp e fun o' xs _ => o' == o && onThree xs k
theorem onBool3_inv {o : BoolOp} {e : Expr} {k : Expr → Expr → Expr → Bool} (h : onBool3 o e k = true) : ∃ x y z p, e = .BoolOp o [x, y, z] p ∧ k x y z = true := by
  obtain ⟨o', xs, p, rfl, g⟩ := onBoolOp_inv h; obtain ⟨h1, g2⟩ := and_inv g; cases eq_of_beq h1; obtain ⟨x, y, z, rfl, g3⟩ := onThree_inv g2; exact ⟨_, _, _, _, rfl, g3⟩
noncomputable def onRange3 (e : Expr) (k : Str → Expr → Expr → Bool) : Bool := onCallN e fun n as => onThree as fun x y z => onUn .USub z fun w => onIntC w fun i => i == 1 && k n x y
theorem onRange3_inv {e : Expr} {k : Str → Expr → Expr → Bool} (h : onRange3 e k = true) : ∃ n pn x y kk pk pu p, e = .Call (.Name n pn) [x, y, .UnaryOp .USub (.Constant (.int 1) kk pk) pu] [] p ∧ k n x y = true := by
  obtain ⟨n, pn, as, p, rfl, h⟩ := onCallN_inv h; obtain ⟨x, y, z, rfl, h⟩ := onThree_inv h; obtain ⟨w, pu, rfl, h⟩ := onUn_inv h; obtain ⟨i, kk, pk, rfl, h⟩ := onIntC_inv h
  obtain ⟨h1, h⟩ := and_inv h; cases eq_of_beq h1; exact ⟨_, _, _, _, _, _, _, _, rfl, h⟩
noncomputable def onAssign1 (e : Stmt) (k : Expr → Expr → Bool) : Bool := atAssign e fun ts v _ => onOne ts fun t => k t v
theorem onAssign1_inv {e : Stmt} {k : Expr → Expr → Bool} (h : onAssign1 e k = true) : ∃ t v p, e = .Assign [t] v p ∧ k t v = true := by
  obtain ⟨ts, v, p, rfl, h⟩ := atAssign_inv h; obtain ⟨t, rfl, h⟩ := onOne_inv h; exact ⟨_, _, _, rfl, h⟩
noncomputable def onMeth1 (e : Expr) (k : Expr → Str → Pos → Expr → Pos → Bool) : Bool := onCall e fun f as ks pc => onAttribute f fun n a pa => onOne as fun y => ks.isEmpty && k n a pa y pc
theorem onMeth1_inv {e : Expr} {k : Expr → Str → Pos → Expr → Pos → Bool} (h : onMeth1 e k = true) : ∃ n a pa y pc, e = .Call (.Attribute n a pa) [y] [] pc ∧ k n a pa y pc = true := by
  obtain ⟨f, as, ks, pc, rfl, h⟩ := onCall_inv h; obtain ⟨n, a, pa, rfl, h⟩ := onAttribute_inv h
  obtain ⟨y, rfl, h⟩ := onOne_inv h; obtain ⟨h1, h⟩ := and_inv h; cases isNil_inv h1; exact ⟨_, _, _, _, _, rfl, h⟩
noncomputable def onAppend (e : Stmt) (k : Expr → Str → Pos → Expr → Pos → Bool) : Bool := atExpr e fun v _ => onMeth1 v k
theorem onAppend_inv {e : Stmt} {k : Expr → Str → Pos → Expr → Pos → Bool} (h : onAppend e k = true) : ∃ n a pa y pc p, e = .Expr (.Call (.Attribute n a pa) [y] [] pc) p ∧ k n a pa y pc = true := by
  obtain ⟨v, p, rfl, h⟩ := atExpr_inv h; obtain ⟨n, a, pa, y, pc, rfl, h⟩ := onMeth1_inv h; exact ⟨_, _, _, _, _, _, rfl, h⟩
noncomputable def onSetitem (e : Stmt) (k : Expr → Expr → Expr → Bool) : Bool := onAssign1 e fun t v => onSubscript t fun n sl _ => k n sl v
theorem onSetitem_inv {e : Stmt} {k : Expr → Expr → Expr → Bool} (h : onSetitem e k = true) : ∃ n sl ps v p, e = .Assign [.Subscript n sl ps] v p ∧ k n sl v = true := by
  obtain ⟨t, v, p, rfl, h⟩ := onAssign1_inv h; obtain ⟨n, sl, ps, rfl, h⟩ := onSubscript_inv h; exact ⟨_, _, _, _, _, rfl, h⟩
noncomputable def onUnpack (e : Stmt) (k : List Expr → Expr → Bool) : Bool := onAssign1 e fun t v => onTuple t fun ts _ _ => k ts v
theorem onUnpack_inv {e : Stmt} {k : List Expr → Expr → Bool} (h : onUnpack e k = true) : ∃ ts n tp v p, e = .Assign [.Tuple ts n tp] v p ∧ k ts v = true := by
  obtain ⟨t, v, p, rfl, h⟩ := onAssign1_inv h; obtain ⟨ts, n, tp, rfl, h⟩ := onTuple_inv h; exact ⟨_, _, _, _, _, rfl, h⟩
noncomputable def onWhile0 (e : Stmt) (k : Expr → List Stmt → Bool) : Bool := atWhile e fun t y z _ => z.isEmpty && k t y
theorem onWhile0_inv {e : Stmt} {k : Expr → List Stmt → Bool} (h : onWhile0 e k = true) : ∃ t y p, e = .While t y [] p ∧ k t y = true := by
  obtain ⟨t, y, z, p, rfl, h⟩ := atWhile_inv h; obtain ⟨h1, h⟩ := and_inv h; cases isNil_inv h1; exact ⟨_, _, _, rfl, h⟩
noncomputable def onFor0 (e : Stmt) (k : Expr → Expr → List Stmt → Bool) : Bool := atFor e fun t i y z _ => z.isEmpty && k t i y
theorem onFor0_inv {e : Stmt} {k : Expr → Expr → List Stmt → Bool} (h : onFor0 e k = true) : ∃ t i y p, e = .For t i y [] p ∧ k t i y = true := by
  obtain ⟨t, i, y, z, p, rfl, h⟩ := atFor_inv h; obtain ⟨h1, h⟩ := and_inv h; cases isNil_inv h1; exact ⟨_, _, _, _, rfl, h⟩
noncomputable def onRet (e : Stmt) (k : Expr → Bool) : Bool := atReturn e fun v _ => onSome v k
theorem onRet_inv {e : Stmt} {k : Expr → Bool} (h : onRet e k = true) : ∃ v p, e = .Return (some v) p ∧ k v = true := by
  obtain ⟨o, p, rfl, h⟩ := atReturn_inv h; obtain ⟨v, rfl, h⟩ := onSome_inv h; exact ⟨_, _, rfl, h⟩
noncomputable def onRaise1 (e : Stmt) (k : Str → Str → Bool) : Bool := atRaise e fun v c _ => c.isNone && onSome v fun v => onCall1 v fun n x => onStrC x fun m => k n m
theorem onRaise1_inv {e : Stmt} {k : Str → Str → Bool} (h : onRaise1 e k = true) : ∃ n np m k1 k2 cp p, e = .Raise (some (.Call (.Name n np) [.Constant (.str m) k1 k2] [] cp)) none p ∧ k n m = true := by
  obtain ⟨v, c, p, rfl, h⟩ := atRaise_inv h; obtain ⟨h1, h⟩ := and_inv h; cases isNone_inv h1; obtain ⟨v, rfl, h⟩ := onSome_inv h; obtain ⟨n, np, x, cp, rfl, h⟩ := onCall1_inv h; obtain ⟨m, k1, k2, rfl, h⟩ := onStrC_inv h
  exact ⟨_, _, _, _, _, _, _, rfl, h⟩
noncomputable def onHand (e : ExceptHandler) (k : Option Expr → Option Str → List Stmt → Bool) : Bool := match e with | .ExceptHandler t n b _ => k t n b
theorem onHand_inv {e : ExceptHandler} {k : Option Expr → Option Str → List Stmt → Bool} (h : onHand e k = true) : ∃ t n b p, e = .ExceptHandler t n b p ∧ k t n b = true := by
  cases e; exact ⟨_, _, _, _, rfl, h⟩
noncomputable def onTry1 (e : Stmt) (k : List Stmt → Str → List Stmt → Bool) : Bool := atTry e fun a hs b c _ => b.isEmpty && (c.isEmpty && onOne hs fun hd => onHand hd fun t n hx => n.isNone && onSome t fun t => onName t fun x _ => k a x hx)
theorem onTry1_inv {e : Stmt} {k : List Stmt → Str → List Stmt → Bool} (h : onTry1 e k = true) : ∃ bx n np hx hp p, e = .Try bx [.ExceptHandler (some (.Name n np)) none hx hp] [] [] p ∧ k bx n hx = true := by
  obtain ⟨a, hs, b, c, p, rfl, h⟩ := atTry_inv h; obtain ⟨h1, h⟩ := and_inv h; cases isNil_inv h1; obtain ⟨h1, h⟩ := and_inv h; cases isNil_inv h1
  obtain ⟨hd, rfl, h⟩ := onOne_inv h; obtain ⟨t, n, hx, hp, rfl, h⟩ := onHand_inv h; obtain ⟨h1, h⟩ := and_inv h; cases isNone_inv h1; obtain ⟨t, rfl, h⟩ := onSome_inv h; obtain ⟨x, np, rfl, h⟩ := onName_inv h
  exact ⟨_, _, _, _, _, _, rfl, h⟩
noncomputable def onLComp (e : Expr) (k : Str → Str → Expr → Scope → Bool) : Bool := match e with
  | .ListComp elt gens scope _ => (match gens with
    | [gn] => gn.ifs.isEmpty && gn.is_async == 0 && onName gn.target fun x _ => onCall1 elt fun g y => onName y fun x2 _ => x2 == x && k g x gn.iter scope
    | _ => false)
  | _ => false
theorem onLComp_inv {e : Expr} {k : Str → Str → Expr → Scope → Bool} (h : onLComp e k = true) : ∃ g pg x p2 pc px iter scope pos, e = .ListComp (.Call (.Name g pg) [.Name x p2] [] pc) [⟨.Name x px, iter, [], 0⟩] scope pos ∧ k g x iter scope = true := by
  unfold onLComp at h
  split at h
  · split at h
    · rename_i elt gens scope pos gn
      obtain ⟨t, it, ifs, as⟩ := gn
      simp only [Bool.and_eq_true, beq_iff_eq, List.isEmpty_iff] at h
      obtain ⟨⟨rfl, rfl⟩, h1⟩ := h
      obtain ⟨x, px, e1, h2⟩ := onName_inv h1
      obtain ⟨g, pg, y, pc, e2, h3⟩ := onCall1_inv h2
      obtain ⟨x2, p2, e3, h4⟩ := onName_inv h3
      obtain ⟨h5, h6⟩ := and_inv h4
      cases eq_of_beq h5
      subst e3
      subst e2
      subst e1
      exact ⟨_, _, _, _, _, _, _, _, _, rfl, h6⟩
    · cases h
  · cases h
noncomputable def compScB (scope : Scope) (x g : Str) : Bool := scope.names.all (fun y => y.2 != .free && y.2 != .cell && (y.2 != .local || scope.names.lookup y.1 == some .local)) && scope.kind == .function &&
  scope.names.lookup x == some .local && !(x == ("__debug__" : Str)) && scope.names.lookup g == some .globalImplicit && !(g == ("__debug__" : Str))
end Lim

/-! The model's texts as lists of signs. -/
namespace Lim
open PySem PyProof.Rows Builtin.Str
theorem picks (x : Array Nat) (a : Nat) : ∀ m, ((List.range m).map (a + ·)).filterMap (x[·]?) = (x.toList.drop a).take m
  | 0 => rfl
  | m + 1 => by
    rw [List.range_succ, List.map_append, List.filterMap_append, picks x a m, List.take_add_one]
    congr 1
    have e : (x.toList.drop a)[m]? = x[a + m]? := by rw [List.getElem?_drop, Array.getElem?_toList]
    rw [e]
    show List.filterMap (fun k => x[k]?) [a + m] = _
    cases q : x[a + m]? with
    | none => rw [List.filterMap_cons_none q]; rfl
    | some v => rw [List.filterMap_cons_some q]; rfl
theorem clipS {n : Nat} (i : Int) : (max 0 (min (if i < 0 then i + (n : Int) else i) (n : Int))) = ((clip n i : Nat) : Int) := (Int.toNat_of_nonneg (Int.le_max_left ..)).symm
theorem clip_le (n : Nat) (i : Int) : clip n i ≤ n := by
  have h := clipS (n := n) i
  have h2 : max 0 (min (if i < 0 then i + (n : Int) else i) (n : Int)) ≤ n := Int.max_le.mpr ⟨Int.natCast_nonneg n, Int.min_le_right ..⟩
  rw [h] at h2
  exact Int.ofNat_le.mp h2
theorem idx_eq (lo hi : Option Int) (n : Nat) : strSliceIndices lo hi 1 n = (List.range (hi.elim n (clip n) - lo.elim 0 (clip n))).map (lo.elim 0 (clip n) + ·) := by
  rw [← sliceRange_one]
  cases lo <;> cases hi <;> simp only [strSliceIndices, Option.elim, clipS] <;> rfl
theorem slice_text (x : Str) (lo hi : Option Int) : (if (strSliceIndices lo hi 1 x.length).length = x.length then x else ⟨((strSliceIndices lo hi 1 x.length).filterMap (x.cps[·]?)).toArray⟩) = mkS (sliceL x.cps.toList lo hi) := by
  rw [idx_eq, picks]
  have hl : x.cps.toList.length = x.length := Array.length_toList
  have ha : lo.elim 0 (clip x.length) ≤ x.length := by cases lo <;> simp [clip_le]
  have hb : hi.elim x.length (clip x.length) ≤ x.length := by cases hi <;> simp [clip_le]
  unfold mkS sliceL
  rw [hl]
  split
  · rename_i h
    rw [List.length_map, List.length_range] at h
    have h1 : lo.elim 0 (clip x.length) = 0 := by lia
    rw [h, h1, List.drop_zero, List.take_of_length_le (by lia)]
  · rfl
theorem zfill_text {x : Str} (h : x.cps.size ≤ 4) (hd : ∀ c ∈ x.cps.toList, isDig c) : Txt.zfill x 4 = mkS (List.replicate (4 - x.cps.size) 48 ++ x.cps.toList) := by
  unfold Txt.zfill
  split
  · rename_i h4
    have : x.cps.size = 4 := by simp only [Str.length] at h4; lia
    rw [this]
    rfl
  · have hp : zfilled x ((4 : Int).toNat - x.length) = padded x (4 - x.cps.size) 0 48 := by
      unfold zfilled
      split
      · rename_i e
        have := hd 43 (by rw [Array.mem_toList_iff]; exact Array.mem_of_getElem? e)
        exact absurd this.1 (by decide)
      · rename_i e
        have := hd 45 (by rw [Array.mem_toList_iff]; exact Array.mem_of_getElem? e)
        exact absurd this.1 (by decide)
      · rfl
    rw [hp]
    unfold padded mkS
    congr 1
    apply Array.ext'
    simp
theorem glued_go : ∀ (ps : List Str) (acc : Array Nat), (ps.foldl (fun acc p => acc ++ (Str.ofString "").cps ++ p.cps) acc) = acc ++ (cats ps).toArray
  | [], acc => by simp [cats]
  | p :: r, acc => by
    rw [List.foldl_cons, glued_go r, show (Str.ofString "").cps = #[] by decide +kernel]
    apply Array.ext'
    simp [cats]
theorem join_text (ps : List Str) : Txt.join (Str.ofString "") ps = mkS (cats ps) := by
  show (⟨(ps.drop 1).foldl (fun acc p => acc ++ (Str.ofString "").cps ++ p.cps) (ps.headD Str.empty).cps⟩ : Str) = _
  rw [glued_go]
  cases ps with
  | nil => rfl
  | cons p r =>
    unfold mkS
    congr 1
    apply Array.ext'
    simp [cats]
theorem joinLen_go : ∀ (ps : List Str) (n : Nat), ps.foldl (fun n p => n + p.length + (Str.ofString "").length) n = n + (cats ps).length
  | [], n => by simp [cats]
  | p :: r, n => by
    rw [List.foldl_cons, joinLen_go r, show (Str.ofString "").length = 0 by decide +kernel]
    simp [cats, Str.length]; lia
theorem joinOk {ps : List Str} (h : (cats ps).length ≤ LIM) : JoinOk (Str.ofString "") ps = true := by
  unfold JoinOk
  rw [List.foldl_toArray' _ _ _ rfl, joinLen_go, Nat.zero_add]
  show (!decide ((cats ps).length > sizeLine)) = true
  rw [decide_eq_false (by have hS : sizeLine = 16777216 := by decide +kernel
                          have hL : LIM = 1000000 := rfl
                          lia)]
  rfl
theorem okS_sub {x : Str} {l : List Nat} (h : okS x = true) (hs : ∀ c ∈ l, c ∈ x.cps.toList) : okS (mkS l) = true := by
  unfold okS at *
  rw [show (mkS l).cps = l.toArray from rfl, List.all_toArray, List.all_eq_true]
  rw [← Array.all_toList, List.all_eq_true] at h
  exact fun c hc => h c (hs c hc)
theorem okS_dig {l : List Nat} (h : ∀ c ∈ l, isDig c) : okS (mkS l) = true := by
  unfold okS
  rw [show (mkS l).cps = l.toArray from rfl, List.all_toArray, List.all_eq_true]
  exact fun c hc => decide_eq_true (Nat.lt_of_le_of_lt (h c hc).2 (by decide))
theorem str_text (m : Nat) : Str.ofString (toString ((m : Nat) : Int)) = mkS (decN m) := by
  apply Str.ext'
  apply Array.ext'
  rw [signs_ofString]
  show (Nat.repr m).toList.map Char.toNat = _
  rw [Nat.toList_repr]
  rfl
theorem dec_dig (m : Nat) : ∀ c ∈ decN m, isDig c := by
  intro c hc
  obtain ⟨ch, hch, e⟩ := List.mem_map.mp hc
  have r : ch.isDigit = true := Nat.isDigit_of_mem_toDigits (by decide) (by decide) hch
  rw [← e]
  unfold Char.isDigit at r
  rw [Bool.and_eq_true, decide_eq_true_eq, decide_eq_true_eq] at r
  exact ⟨r.1, r.2⟩
section
variable {prog : Program} {w : World} {A : Around} {E : Value → Shared → Prop} {s : Shared} {fr : List Addr} {F : Addr} {names : List Str} {K P : Part} {ad : Nat → Addr} {σ : List L} {Q : Value → Shared → Prop} {X : Exc → Prop}
theorem str_ok (I : Inv fr F names K P ad σ s) {x : D} {v : Value} (hv : Rep P x v) (h : (strD x).wp (Post1 fr F names K P ad σ s Q) X) : wpAny (model prog w) A (call (.type "str") [v]) Q E s := by
  cases x <;> first | exact h.elim | skip
  case int i =>
    obtain ⟨t, rfl⟩ := hv
    obtain ⟨⟨h0, h1⟩, h⟩ := wp_ite h
    obtain ⟨m, rfl⟩ := Int.eq_ofNat_of_zero_le h0
    rw [Int.toNat_natCast] at h1 h
    have hlog : ((m : Int)).natAbs.log2 < 1920 := by
      rw [Int.natAbs_natCast]
      by_cases q : m = 0
      · rw [q]; decide
      · exact (Nat.log2_lt q).mpr (Nat.lt_trans h1 (by decide +kernel))
    refine PySem.P.str_of_int hlog ?_
    rw [str_text]
    refine Post1.tok I h ⟨⟨_, rfl⟩, okS_dig (dec_dig m), ?_⟩ _
    have hf := int_text_length_le (k := 1920) (by decide) hlog
    have e : (Str.ofString (toString ((m : Nat) : Int))).length = (mkS (decN m)).cps.size := by rw [str_text]; rfl
    rw [← e, PySem.ofString_length]
    have hL : LIM = 1000000 := rfl
    lia
theorem zfill_ok (I : Inv fr F names K P ad σ s) {x : D} {v : Value} {pl : Sem Bool} {pos pi : Pos} {ki : Nat} {env : Env} (hv : Rep P x v) (h : (zfillD x).wp (Post1 fr F names K P ad σ s Q) X) :
    wpAny (model prog w) A (getMethod v "zfill" pl) (fun fx s₂ => wpAny (model prog w) A (callWith pos fx.1 fx.2 (backTo pos (starEach [.Constant (.int 4) ki pi] env)) []) Q E s₂) E s := by
  cases x <;> first | exact h.elim | skip
  case str x =>
    obtain ⟨⟨t, rfl⟩, o1, l1⟩ := hv
    obtain ⟨⟨h0, h1⟩, h⟩ := wp_ite h
    with_reducible refine GM.zfill ?_
    refine callWith_method1 (id := "str.zfill") (first := [.str x t]) (args_cons (wpAny_Constant_int (args_nil ?_)))
    refine SC.zfill (by decide +kernel) fun t' k => ?_
    rw [zfill_text h0 h1]
    have hd : ∀ c ∈ List.replicate (4 - x.cps.size) 48 ++ x.cps.toList, isDig c := fun c hc => by
      rcases List.mem_append.mp hc with hc | hc
      · rw [List.eq_of_mem_replicate hc]; exact ⟨by decide, by decide⟩
      · exact h1 c hc
    refine Post1.tok I h ⟨⟨_, rfl⟩, okS_dig hd, ?_⟩ k
    show (List.replicate (4 - x.cps.size) 48 ++ x.cps.toList).length ≤ LIM
    rw [List.length_append, List.length_replicate, Array.length_toList]
    have hL : LIM = 1000000 := rfl
    lia
theorem strs_vals : ∀ {ds : List D} {ts : List Str} {vs : List Value}, allStrs ds = some ts → AllV (Rep P) ds vs → (∃ l : List (Str × Tok), vs = strValues l ∧ l.map (·.1) = ts) ∧ ∀ x ∈ ts, okS x = true
  | [], ts, vs, h, r => by cases h; cases r; exact ⟨⟨[], rfl, rfl⟩, fun _ h => nomatch h⟩
  | .str x :: d, ts, vs, h, ⟨v, vs', e, r1, r2⟩ => by
    obtain ⟨⟨t, rfl⟩, o1, _⟩ := r1
    have h' : (allStrs d).map (x :: ·) = some ts := h
    cases q : allStrs d with
    | none => rw [q] at h'; cases h'
    | some us =>
      rw [q] at h'
      cases h'
      obtain ⟨⟨l, rfl, rfl⟩, ho⟩ := strs_vals q r2
      refine ⟨⟨(x, t) :: l, e, rfl⟩, fun y hy => ?_⟩
      cases hy with
      | head => exact o1
      | tail _ hy => exact ho y hy
  | .none :: _, _, _, h, _ => nomatch h
  | .bool _ :: _, _, _, h, _ => nomatch h
  | .int _ :: _, _, _, h, _ => nomatch h
  | .ilist _ :: _, _, _, h, _ => nomatch h
  | .list _ :: _, _, _, h, _ => nomatch h
  | .tup _ :: _, _, _, h, _ => nomatch h
theorem okS_cats : ∀ {ts : List Str}, (∀ x ∈ ts, okS x = true) → okS (mkS (cats ts)) = true
  | [], _ => okS_dig (l := []) fun c hc => nomatch hc
  | x :: r, h => by
    have e : mkS (cats (x :: r)) = x ++ mkS (cats r) := by
      apply Str.ext'
      rw [cps_append]
      show (x.cps.toList ++ cats r).toArray = x.cps ++ (cats r).toArray
      simp
    rw [e]
    exact okS_append (h x (.head _)) (okS_cats fun y hy => h y (.tail _ hy))
theorem join_ok (I : Inv fr F names K P ad σ s) {x : D} {v : Value} {t : Tok} (hv : Rep P x v) (h : (joinD x).wp (Post1 fr F names K P ad σ s Q) X) : wpAny (model prog w) A (call (.builtin "str.join") [.str (Str.ofString "") t, v]) Q E s := by
  cases x <;> first | exact h.elim | skip
  case list ds =>
    obtain ⟨a, vs, n, rfl, p1, p2, p3⟩ := hv
    obtain ⟨o, ho⟩ : ∃ o, allStrs ds = o := ⟨_, rfl⟩
    have h' : (match o with | some ts => if (cats ts).length ≤ LIM then Res.ok (D.str (mkS (cats ts))) else .stuck | Option.none => .stuck).wp (Post1 fr F names K P ad σ s Q) X := by rw [← ho]; exact h
    cases o with
    | none => exact h'.elim
    | some ts =>
      obtain ⟨h1, h2⟩ := wp_ite h'
      obtain ⟨⟨l, rfl, rfl⟩, hok⟩ := strs_vals ho (reps_all.mp p2)
      refine SC.join (I.isin.list p1) rfl (joinOk h1) fun t' k => ?_
      rw [join_text]
      exact Post1.tok I h2 ⟨⟨_, rfl⟩, okS_cats hok, h1⟩ k
theorem ord_ok (I : Inv fr F names K P ad σ s) {x : D} {v : Value} (hv : Rep P x v) (h : (ordD x).wp (Post1 fr F names K P ad σ s Q) X) : wpAny (model prog w) A (call (.builtin "ord") [v]) Q E s := by
  cases x <;> first | exact h.elim | skip
  case str x =>
    obtain ⟨⟨t, rfl⟩, o1, l1⟩ := hv
    obtain ⟨l, e⟩ : ∃ l, x.cps.toList = l := ⟨_, rfl⟩
    have h' : (ordL l).wp (Post1 fr F names K P ad σ s Q) X := by rw [← e]; exact h
    rcases l with _ | ⟨c, _ | ⟨_, _⟩⟩
    · exact h'.elim
    · have ea : x = ⟨#[c]⟩ := Str.ext' (Array.ext' e)
      subst ea
      exact PySem.P.ord_of_char (Post1.tok I h' ⟨_, rfl⟩ _)
    · exact h'.elim
theorem int_ok (I : Inv fr F names K P ad σ s) {x : D} {v : Value} (hv : Rep P x v) (h : (intD x).wp (Post1 fr F names K P ad σ s Q) X) : wpAny (model prog w) A (call (.type "int") [v]) Q E s := by
  cases x <;> first | exact h.elim | skip
  case str x =>
    obtain ⟨⟨t, rfl⟩, o1, l1⟩ := hv
    obtain ⟨⟨h0, h1, h2⟩, h⟩ := wp_ite h
    exact PySem.W.KIN.call_text (PySem.intText_digits h2 h1 (Nat.le_trans h0 (by decide))) h0 (Post1.tok I h ⟨_, rfl⟩ _)
end
end Lim

set_option maxHeartbeats 4000000
/-! The check that a mini text is the model's text; soundness of expressions. -/
namespace Lim
open PySem PyProof.Rows

section
variable (hot : Bool) (sc : Scope) (names fn gn : List Str)

noncomputable def isLoc (x : Str) : Bool := sc.names.lookup x == some .local && !(x == ("__debug__" : Str))
noncomputable def isGl (x : Str) : Bool := sc.names.lookup x == some .globalImplicit && !(x == ("__debug__" : Str))

noncomputable def chkVar (i : Nat) (e : Expr) : Bool := onName e fun x _ => names[i]? == some x && isLoc sc x

mutual
noncomputable def chkE : E → Expr → Bool
  | .var i, e => chkVar sc names i e
  | .glob g, e => onName e fun x _ => gn[g]? == some x && isGl sc x
  | .none, e => onNone e true
  | .bool b, e => onBoolC e fun c => b == c
  | .int n, e => onIntC e fun m => n == m
  | .str x, e => onStrC e fun y => x == y && okS x && decide (x.cps.size ≤ LIM)
  | .bin op a b, e => onBinOp e fun l o r _ => opOf op == o && chkE a l && chkE b r
  | .neg a, e => onUn .USub e fun x => chkE a x
  | .not a, e => onUn .Not e fun x => chkE a x
  | .cmp op a b, e => onCmp e fun l o r => copOf op == o && chkE a l && chkE b r
  | .isInt a, e => onIsInt e fun f x g => f == ("type" : Str) && isGl sc f && g == ("int" : Str) && isGl sc g && chkE a x
  | .and _ _, _ => false
  | .or3 _ _ _, _ => false
  | .ite c a b, e => onIfExp e fun t x y _ => chkT c t && chkE a x && chkE b y
  | .item a i, e => onSubscript e fun v sl _ => chkE a v && chkE i sl
  | .itemV k i, e => onSubscript e fun v sl _ => chkVar sc names k v && chkE i sl
  | .slice a lo hi, e => onSl e fun v l u => chkE a v && chkO lo l && chkO hi u
  | .len a, e => onCall1 e fun f x => f == ("len" : Str) && isGl sc f && chkE a x
  | .lenV k, e => onCall1 e fun f x => f == ("len" : Str) && isGl sc f && chkVar sc names k x
  | .max a b, e => onCall2 e fun f x y => !hot && f == ("max" : Str) && isGl sc f && chkE a x && chkE b y
  | .abs a, e => onCall1 e fun f x => f == ("abs" : Str) && isGl sc f && chkE a x
  | .strOf a, e => onCall1 e fun f x => f == ("str" : Str) && isGl sc f && chkE a x
  | .intOf a, e => onCall1 e fun f x => f == ("int" : Str) && isGl sc f && chkE a x
  | .ord a, e => onCall1 e fun f x => f == ("ord" : Str) && isGl sc f && chkE a x
  | .zfill4 a, e => onMeth1 e fun v n pa y pc => pa.endLine == pc.line && n == ("zfill" : Str) && onIntC y (fun i => i == 4) && onCall1 v (fun _ _ => true) && chkE a v
  | .joinE a, e => onMeth1 e fun v n pa x pc => pa.endLine == pc.line && onStrC v (fun y => y == ("" : Str)) && n == ("join" : Str) && chkE a x
  | .bot, e => onCallN e fun _ _ => true
  | .tupMap f a, e => onCall1 e fun t y => !hot && t == ("tuple" : Str) && isGl sc t && onLComp y fun g x iter scope => fn[f]? == some g && compScB scope x g && chkE a iter
  | .call f args, e => onCallN e fun x es => fn[f]? == some x && isGl sc x && !args.isEmpty && chkEs args es
  | .tup es, e => onTuple e fun xs _ _ => decide (xs.length ≤ 1000) && chkEs es xs
  | .list es, e => onList e fun xs _ => decide (xs.length ≤ 1000) && chkEs es xs
noncomputable def chkO : Option E → Option Expr → Bool
  | Option.none, x => x.isNone
  | some e, x => match x with | some y => chkE e y | none => false
noncomputable def chkEs : List E → List Expr → Bool
  | [], xs => xs.isEmpty
  | e :: r, xs => match xs with | x :: t => chkE e x && chkEs r t | [] => false
/-- tests -/
noncomputable def chkT : E → Expr → Bool
  | .not a, e => onUn .Not e fun x => chkT a x
  | .and a b, e => onBool2 .And e fun x y => chkT a x && chkT b y
  | .or3 a b c, e => onBool3 .Or e fun x y z => chkT a x && chkT b y && chkT c z
  | .cmp op a b, e => onCmp e fun l o r => copOf op == o && chkE a l && chkE b r
  | .isInt a, e => onIsInt e fun f x g => f == ("type" : Str) && isGl sc f && g == ("int" : Str) && isGl sc g && chkE a x
  | .var i, e => chkVar sc names i e
  | .call f args, e => onCallN e fun x es => fn[f]? == some x && isGl sc x && !args.isEmpty && chkEs args es
  | _, _ => false
end
end

theorem Res.wp_mono {α : Type} {r : Res α} {Q Q' : α → Prop} {X X' : Exc → Prop} (h : r.wp Q X) (hQ : ∀ a, Q a → Q' a) (hX : ∀ c, X c → X' c) : r.wp Q' X' := by
  cases r with
  | stuck => exact h
  | exc c => exact hX _ h
  | ok a => exact hQ _ h
theorem Res.wp_bind {α β : Type} {r : Res α} {f : α → Res β} {Q : β → Prop} {X : Exc → Prop} : (r.bind f).wp Q X ↔ r.wp (fun a => (f a).wp Q X) X := by cases r <;> exact Iff.rfl

set_option genInjectivity false
set_option genSizeOf false
structure Cx where
  prog : Program
  w : World
  A : Around
  env : Env
  outer : List Env
  hot : Bool
  fr : List Addr
  names : List Str
  fn : List Str
  gn : List Str
  F : Nat → List D → Res D
  G : Nat → Option D
  hb : Heap
  mg : Str → Option Value
  mb : Str → Option Value
  P0 : Part
  Fly : Part → Part → (Nat → Addr) → List L → Exc → Value → Shared → Prop

noncomputable def bltins : List (Str × Value) := [("len", .builtin "len"), ("max", .builtin "max"), ("abs", .builtin "abs"), ("range", .type "range"), ("type", .type "type"), ("int", .type "int"), ("str", .type "str"), ("ord", .builtin "ord"), ("tuple", .type "tuple"), ("ValueError", .type "ValueError"), ("ZeroDivisionError", .type "ZeroDivisionError")]

namespace Cx
variable (c : Cx)
abbrev Inv (K P : Part) (ad : Nat → Addr) (σ : List L) (s : Shared) : Prop := Lim.Inv c.fr c.env.locals c.names K P ad σ s
noncomputable def Based (K : Part) : Prop := (∀ a o, c.hb.get? a = some o → K a = some o) ∧ ∀ a ∈ c.fr, ∃ o es n, K a = some o ∧ o.data = .dict es n
abbrev PostE (K P : Part) (ad : Nat → Addr) (σ : List L) (s : Shared) (Q : Value → Shared → Prop) (d : D) : Prop := Post1 c.fr c.env.locals c.names K P ad σ s Q d
abbrev PostX (K P : Part) (ad : Nat → Addr) (σ : List L) (s : Shared) (Ex : Value → Shared → Prop) (x : Exc) : Prop := ∀ P' v s', Ext K P P' → c.Inv K P' ad σ s' → c.Fly K P' ad σ x v s' → Evo s s' → Ex v s'

noncomputable def CallOk (f : Nat) (fa : Addr) : Prop := ∀ K P ad σ s Q Ex ds vs, c.Inv K P ad σ s → c.Based K → Sub c.P0 P → Reps P ds vs → (c.F f ds).wp (c.PostE K P ad σ s Q) (c.PostX K P ad σ s Ex) →
  wpAny (model c.prog c.w) c.A (call (.ref fa) vs) Q Ex s

structure Ok : Prop where
  kind : c.env.scope.kind = .function
  gl : c.env.globals = mainGlobals
  bu : c.env.builtins = builtinsNs
  hA : c.hot = false → c.A.handled = none
  un : c.A.units + 100 < cLine
  gns : c.hb.Ns mainGlobals c.mg
  bns : c.hb.Ns builtinsNs c.mb
  nofr : ∀ a o, c.hb.get? a = some o → a ∉ c.fr
  nd : c.names.Nodup
  blt : ∀ p ∈ bltins, c.mg p.1 = none ∧ c.mb p.1 = some p.2
  gok : ∀ g d x, c.G g = some d → c.gn[g]? = some x → ∃ v, c.mg x = some v ∧ Rep c.P0 d v
  fok : ∀ f x, c.fn[f]? = some x → ∃ fa o fd, c.mg x = some (.ref fa) ∧ c.hb.get? fa = some o ∧ o.data = .func fd ∧ c.CallOk f fa

noncomputable def SoundE (e : E) (ex : Expr) : Prop := ∀ K P ad σ s Q Ex, c.Inv K P ad σ s → c.Based K → Sub c.P0 P → (evalE c.F c.G σ e).wp (c.PostE K P ad σ s Q) (c.PostX K P ad σ s Ex) → wpAny (model c.prog c.w) c.A (eval ex c.env) Q Ex s
noncomputable def SoundEs (es : List E) (xs : List Expr) : Prop := ∀ K P ad σ s (Q : List Value → Shared → Prop) Ex pos, c.Inv K P ad σ s → c.Based K → Sub c.P0 P →
  (evalEs c.F c.G σ es).wp (fun ds => ∀ P' vs s', Ext K P P' → c.Inv K P' ad σ s' → Reps P' ds vs → Evo s s' → Q vs s') (c.PostX K P ad σ s Ex) → wpAny (model c.prog c.w) c.A (spliced (backTo pos (starEach xs c.env))) Q Ex s
noncomputable def SoundO (o : Option E) (x : Option Expr) : Prop := ∀ K P ad σ s Q Ex, c.Inv K P ad σ s → c.Based K → Sub c.P0 P →
  (evalO c.F c.G σ o).wp (fun i => ∀ P' v s', Ext K P P' → c.Inv K P' ad σ s' → IsPart v i → Evo s s' → Q v s') (c.PostX K P ad σ s Ex) → wpAny (model c.prog c.w) c.A (evalPart x c.env) Q Ex s
noncomputable def SoundT (e : E) (ex : Expr) : Prop := ∀ K P ad σ s Q Ex, c.Inv K P ad σ s → c.Based K → Sub c.P0 P →
  (evalE c.F c.G σ e).wp (fun d => ∃ b, d = .bool b ∧ ∀ P' s', Ext K P P' → c.Inv K P' ad σ s' → Evo s s' → Q b s') (c.PostX K P ad σ s Ex) → wpAny (model c.prog c.w) c.A (isTrue ex c.env (eval ex c.env)) Q Ex s
end Cx

section
variable {c : Cx} {K P P1 : Part} {ad : Nat → Addr} {σ : List L} {s s1 : Shared} {Q : Value → Shared → Prop} {Ex : Value → Shared → Prop}
theorem PostE.shift {d : D} (h : c.PostE K P ad σ s Q d) (he : Ext K P P1) (hv : Evo s s1) : c.PostE K P1 ad σ s1 Q d := fun P' v s' e I r ev => h P' v s' (he.trans e) I r (hv.trans ev)
theorem PostX.shift {x : Exc} (h : c.PostX K P ad σ s Ex x) (he : Ext K P P1) (hv : Evo s s1) : c.PostX K P1 ad σ s1 Ex x := fun P' v s' e I r ev => h P' v s' (he.trans e) I r (hv.trans ev)

theorem Cx.Ok.inHeap (o : c.Ok) (I : c.Inv K P ad σ s) (hB : c.Based K) : ∀ a ob, c.hb.get? a = some ob → s.heap.get? a = some ob := fun a ob e => by
  obtain ⟨o', h1, h2, _⟩ := I.keep a ob (hB.1 a ob e)
  rw [h1, h2 (o.nofr a ob e)]

theorem var_ok (ok : c.Ok) (I : c.Inv K P ad σ s) {i : Nat} {x : Str} {pos : Pos} {d : D} (hx : c.names[i]? = some x) (hl : isLoc c.env.scope x = true) (hd : σ[i]? = some (.val d)) (h : c.PostE K P ad σ s Q d) :
    wpAny (model c.prog c.w) c.A (eval (.Name x pos) c.env) Q Ex s := by
  obtain ⟨m, v, hn, hv, hr⟩ := I.valAt hx hd
  simp only [isLoc, Bool.and_eq_true, beq_iff_eq, Bool.not_eq_true'] at hl
  exact wpAny_Name (wpAny_loadName_local ok.kind hl.1 hn hv (Post1.same I h hr)) hl.2
theorem own_ok (ok : c.Ok) (I : c.Inv K P ad σ s) {i : Nat} {x : Str} {pos : Pos} {d : D} (hx : c.names[i]? = some x) (hl : isLoc c.env.scope x = true) (hd : σ[i]? = some (.own d))
    (h : OwnAt P s.heap (ad i) d → Q (.ref (ad i)) s) :
    wpAny (model c.prog c.w) c.A (eval (.Name x pos) c.env) Q Ex s := by
  obtain ⟨m, hn, hv, ho, hu⟩ := I.ownAt hx hd
  simp only [isLoc, Bool.and_eq_true, beq_iff_eq, Bool.not_eq_true'] at hl
  exact wpAny_Name (wpAny_loadName_local ok.kind hl.1 hn hv (h ho)) hl.2
theorem glob_ok (ok : c.Ok) (I : c.Inv K P ad σ s) (hB : c.Based K) {x : Str} {pos : Pos} {v : Value} (hl : isGl c.env.scope x = true) (hv : c.mg x = some v) (h : Q v s) :
    wpAny (model c.prog c.w) c.A (eval (.Name x pos) c.env) Q Ex s := by
  simp only [isGl, Bool.and_eq_true, beq_iff_eq, Bool.not_eq_true'] at hl
  exact Calls.Name_function_global ok.kind hl.1 (Calls.loadGlobal_global (by rw [ok.gl]; exact ok.gns.keeps (ok.inHeap I hB)) hv h) hl.2
theorem blt_ok (ok : c.Ok) (I : c.Inv K P ad σ s) (hB : c.Based K) {x : Str} {pos : Pos} {v : Value} (hl : isGl c.env.scope x = true) (hm : (x, v) ∈ bltins) (h : Q v s) :
    wpAny (model c.prog c.w) c.A (eval (.Name x pos) c.env) Q Ex s := by
  simp only [isGl, Bool.and_eq_true, beq_iff_eq, Bool.not_eq_true'] at hl
  have q := ok.blt _ hm
  exact Calls.Name_function_global ok.kind hl.1 (Calls.loadGlobal_builtin (by rw [ok.gl]; exact ok.gns.keeps (ok.inHeap I hB)) q.1 (by rw [ok.bu]; exact ok.bns.keeps (ok.inHeap I hB)) q.2 h) hl.2
end

section
variable {c : Cx}
theorem chkVar_inv {sc : Scope} {names : List Str} {i : Nat} {ex : Expr} (h : chkVar sc names i ex = true) : ∃ x pos, ex = .Name x pos ∧ names[i]? = some x ∧ isLoc sc x = true := by
  obtain ⟨x, p, rfl, g⟩ := onName_inv h
  simp only [Bool.and_eq_true, beq_iff_eq] at g; exact ⟨_, _, rfl, g.1, g.2⟩

noncomputable def okHead (e : Expr) : Bool := e.ctorIdx == 23 || e.ctorIdx == 19 || e.ctorIdx == 2 || e.ctorIdx == 3 || e.ctorIdx == 15 || e.ctorIdx == 5 || e.ctorIdx == 21 || e.ctorIdx == 16 || e.ctorIdx == 25 || e.ctorIdx == 24
theorem chkE_head {hot : Bool} {sc : Scope} {names fn gn : List Str} {e : E} {ex : Expr} (h : chkE hot sc names fn gn e ex = true) : okHead ex = true := by
  cases e
  case var => obtain ⟨_, _, rfl, _⟩ := chkVar_inv h; rfl
  case glob => obtain ⟨_, _, rfl, _⟩ := onName_inv h; rfl
  case none => obtain ⟨_, _, rfl, _⟩ := onNone_inv h; rfl
  case bool => obtain ⟨_, _, _, rfl, _⟩ := onBoolC_inv h; rfl
  case int => obtain ⟨_, _, _, rfl, _⟩ := onIntC_inv h; rfl
  case str => obtain ⟨_, _, _, rfl, _⟩ := onStrC_inv h; rfl
  case bin => obtain ⟨_, _, _, _, rfl, _⟩ := onBinOp_inv h; rfl
  case neg => obtain ⟨_, _, rfl, _⟩ := onUn_inv h; rfl
  case not => obtain ⟨_, _, rfl, _⟩ := onUn_inv h; rfl
  case cmp => obtain ⟨_, _, _, _, rfl, _⟩ := onCmp_inv h; rfl
  case isInt => obtain ⟨_, _, _, _, _, _, _, rfl, _⟩ := onIsInt_inv h; rfl
  case and => exact absurd h Bool.false_ne_true
  case or3 => exact absurd h Bool.false_ne_true
  case ite => obtain ⟨_, _, _, _, rfl, _⟩ := onIfExp_inv h; rfl
  case item => obtain ⟨_, _, _, rfl, _⟩ := onSubscript_inv h; rfl
  case itemV => obtain ⟨_, _, _, rfl, _⟩ := onSubscript_inv h; rfl
  case slice => obtain ⟨_, _, _, _, _, rfl, _⟩ := onSl_inv h; rfl
  case max => obtain ⟨_, _, _, _, _, rfl, _⟩ := onCall2_inv h; rfl
  case zfill4 => obtain ⟨_, _, _, _, _, rfl, _⟩ := onMeth1_inv h; rfl
  case joinE => obtain ⟨_, _, _, _, _, rfl, _⟩ := onMeth1_inv h; rfl
  case bot => obtain ⟨_, _, _, _, rfl, _⟩ := onCallN_inv h; rfl
  case call => obtain ⟨_, _, _, _, rfl, _⟩ := onCallN_inv h; rfl
  case tup => obtain ⟨_, _, _, rfl, _⟩ := onTuple_inv h; rfl
  case list => obtain ⟨_, _, rfl, _⟩ := onList_inv h; rfl
  all_goals (obtain ⟨_, _, _, _, rfl, _⟩ := onCall1_inv h; rfl)
theorem chkE_plain {hot : Bool} {sc : Scope} {names fn gn : List Str} {e : E} {ex : Expr} (h : chkE hot sc names fn gn e ex = true) (rest : List Expr) (env : Env) : starEach (ex :: rest) env = (false, eval ex env) :: starEach rest env := by
  replace h := chkE_head h
  clear e
  cases ex <;> first | rfl | exact absurd h Bool.false_ne_true
theorem chkVar_plain {sc : Scope} {names : List Str} {i : Nat} {ex : Expr} (h : chkVar sc names i ex = true) (rest : List Expr) (env : Env) : starEach (ex :: rest) env = (false, eval ex env) :: starEach rest env := by
  obtain ⟨x, pos, rfl, _⟩ := chkVar_inv h
  rfl
theorem chkE_marks {hot : Bool} {sc : Scope} {names fn gn : List Str} {e : E} {ex : Expr} (h : chkE hot sc names fn gn e ex = true) (op : CmpOp) : behindInMarks op ex = false := by
  replace h := chkE_head h
  clear e
  cases ex <;> first | rfl | exact absurd h Bool.false_ne_true
theorem chkE_sub {hot : Bool} {sc : Scope} {names fn gn : List Str} {e : E} {ex : Expr} (h : chkE hot sc names fn gn e ex = true) (o i : Value) : subscripted ex false o i = operate [o, i] (getItem o i) := by
  replace h := chkE_head h
  clear e
  cases ex <;> first | rfl | exact absurd h Bool.false_ne_true
theorem chkE_swaps {hot : Bool} {sc : Scope} {names fn gn : List Str} {e : E} {ex : Expr} (h : chkE hot sc names fn gn e ex = true) (t : Option Expr) (n : Nat) (env : Env) : swapsWith ex t n env = pure false := by
  replace h := chkE_head h
  clear e
  cases ex <;> first | rfl | exact absurd h Bool.false_ne_true
theorem chkEs_len {hot : Bool} {sc : Scope} {names fn gn : List Str} : ∀ {es : List E} {xs : List Expr}, chkEs hot sc names fn gn es xs = true → es.length = xs.length
  | [], xs, h => by cases isNil_inv h; rfl
  | e :: r, [], h => absurd h Bool.false_ne_true
  | e :: r, x :: t, h => congrArg Nat.succ (chkEs_len (and_inv h).2)

theorem evalEs_len {F : Nat → List D → Res D} {G : Nat → Option D} {σ : List L} : ∀ {es : List E} {Q : List D → Prop} {X : Exc → Prop}, (evalEs F G σ es).wp Q X → (evalEs F G σ es).wp (fun ds => Q ds ∧ ds.length = es.length) X
  | [], _, _, h => ⟨h, rfl⟩
  | e :: r, Q, X, h => by
    refine Res.wp_bind.mpr (Res.wp_mono (Res.wp_bind.mp h) (fun d hd => ?_) fun _ y => y)
    have := evalEs_len (Res.wp_bind.mp hd)
    exact Res.wp_bind.mpr (Res.wp_mono this (fun ds hds => ⟨hds.1, by simp [hds.2]⟩) fun _ y => y)

theorem allInts_ok {P : Part} : ∀ {ds : List D} {ns : List Int} {vs : List Value}, allInts ds = some ns → Reps P ds vs → AllV IsI ns vs
  | [], ns, vs, h, r => by cases h; exact r
  | .int i :: t, ns, vs, h, r => by
    simp only [allInts] at h
    obtain ⟨ms, h1, rfl⟩ := Option.map_eq_some_iff.mp h
    obtain ⟨v, vs', rfl, h2, h3⟩ := r
    exact ⟨v, vs', rfl, h2, allInts_ok h1 h3⟩
  | .none :: _, _, _, h, _ => by cases h
  | .bool _ :: _, _, _, h, _ => by cases h
  | .str _ :: _, _, _, h, _ => by cases h
  | .ilist _ :: _, _, _, h, _ => by cases h
  | .list _ :: _, _, _, h, _ => by cases h
  | .tup _ :: _, _, _, h, _ => by cases h
theorem mkList_rep {P : Part} {ds : List D} {vs : List Value} {a : Addr} {n : Nat} (hp : P a = some (listO vs n)) (hr : Reps P ds vs) (hl : vs.length ≤ sizeLine) : Rep P (mkList ds) (.ref a) := by
  unfold mkList
  split
  · rename_i ns e; exact ⟨a, vs, n, rfl, hp, allInts_ok e hr, hl⟩
  · exact ⟨a, vs, n, rfl, hp, hr, hl⟩

theorem subs_ok {c : Cx} {K P : Part} {ad : Nat → Addr} {σ : List L} {s : Shared} {Q : Value → Shared → Prop} {Ex : Value → Shared → Prop} {X : Exc → Prop} (I : c.Inv K P ad σ s) {x y : D} {v u : Value} {value slice : Expr} (hv : Rep P x v) (hu : Rep P y u)
    (hs : subscripted slice false v u = operate [v, u] (getItem v u)) (h : (getitem x y).wp (c.PostE K P ad σ s Q) X) : wpAny (model c.prog c.w) c.A (subscriptTail value slice v u) Q Ex s := by
  have g := getitem_ok (prog := c.prog) (w := c.w) (A := c.A) (E := Ex) I hv hu h
  cases y <;> first | exact h.elim | skip
  replace h := (wp_ite h).2
  cases x <;> first | exact h.elim | skip
  case ilist ns =>
    obtain ⟨a, vs, n, rfl, p1, p2, p3⟩ := hv
    exact tail_any (I.isin.list p1).typeIs slot_list_getitem.lookup g hs
  case list xs =>
    obtain ⟨a, vs, n, rfl, p1, p2, p3⟩ := hv
    exact tail_any (I.isin.list p1).typeIs slot_list_getitem.lookup g hs
  case tup xs =>
    obtain ⟨a, vs, n, rfl, p1, p2, p3⟩ := hv
    exact tail_any (I.isin.tup p1).typeIs slot_tuple_getitem.lookup g hs
  case str x =>
    obtain ⟨⟨t, rfl⟩, _, _⟩ := hv
    exact tail_any (typeIs_str _ _ _) F.slot_str_getitem.lookup g hs
theorem subs_own {c : Cx} {K P : Part} {ad : Nat → Addr} {σ : List L} {s : Shared} {Q : Value → Shared → Prop} {Ex : Value → Shared → Prop} {X : Exc → Prop} (I : c.Inv K P ad σ s) {x y : D} {a : Addr} {u : Value} {value slice : Expr} (hv : OwnAt P s.heap a x) (hu : Rep P y u)
    (hs : subscripted slice false (.ref a) u = operate [.ref a, u] (getItem (.ref a) u)) (h : (getitem x y).wp (c.PostE K P ad σ s Q) X) : wpAny (model c.prog c.w) c.A (subscriptTail value slice (.ref a) u) Q Ex s := by
  have g := getitem_own (prog := c.prog) (w := c.w) (A := c.A) (E := Ex) I hv hu h
  cases x <;> first | exact hv.elim | skip
  case ilist ns =>
    obtain ⟨vs, n, p1, p2, p3⟩ := hv
    exact tail_any (Heap.IsList.typeIs (items := vs.toArray) ⟨_, p1, rfl, n, rfl⟩) slot_list_getitem.lookup g hs
  case list xs =>
    obtain ⟨vs, n, p1, p2, p3⟩ := hv
    exact tail_any (Heap.IsList.typeIs (items := vs.toArray) ⟨_, p1, rfl, n, rfl⟩) slot_list_getitem.lookup g hs

theorem method1 {env : Env} {ob y : Expr} {name : Str} {apos pos : Pos} (ho : attributeBase ob name env (eval ob env) = eval ob env) (hy : starEach [y] env = (false, eval y env) :: starEach [] env) (hp : apos.endLine = pos.line) :
    eval (.Call (.Attribute ob name apos) [y] [] pos) env = (do
      let ov ← eval ob env
      standAt apos.atName
      let (f, first) ← holding [ov] (getMethod ov name (do return (← importBound ob env).getD true))
      callWith pos f first (backTo pos (starEach [y] env)) []) := by
  rw [arm_eval_Call, ho]
  have hf : methodCallForm ([y].length + ([] : List Keyword).length) (backTo pos (starEach [y] env)) (backToKw pos (keywordEach [] env)) = true := by rw [hy]; rfl
  unfold methodCall
  rw [hf]
  unfold calleeOf methodCallPos
  have hq : (!true || apos.endLine == pos.line) = true := by simp [hp]
  simp only [if_true, hq, pure_bind]
  rfl

theorem isPart_tok {v : Value} {k : Option Int} (h : IsPart v k) : ∃ p : Option (Int × Tok), v = partValue p ∧ p.map (·.1) = k := by
  cases h with
  | none => exact ⟨none, rfl, rfl⟩
  | int i t => exact ⟨some (i, t), rfl, rfl⟩
theorem clip_eq (n : Nat) (i : Int) : clip n i = clipAt n i := rfl
theorem slicePick_eq (vs : List Value) (lo hi : Option Int) : slicePick vs.toArray lo hi none = (sliceL vs lo hi).toArray := by
  rw [slicePick_plain]
  simp only [List.size_toArray, sliceL]
  rfl
theorem sliceL_len {α : Type} (xs : List α) (lo hi : Option Int) : (sliceL xs lo hi).length ≤ xs.length := by
  unfold sliceL
  rw [List.length_take, List.length_drop]
  omega
theorem AllV.sliceL {α : Type} {R : α → Value → Prop} {xs : List α} {vs : List Value} (h : AllV R xs vs) (lo hi : Option Int) : AllV R (Lim.sliceL xs lo hi) (Lim.sliceL vs lo hi) := by
  unfold Lim.sliceL
  rw [h.length]
  exact (h.drop _).take _

theorem slice_ok {c : Cx} {K P : Part} {ad : Nat → Addr} {σ : List L} {s : Shared} {Q : Value → Shared → Prop} {Ex : Value → Shared → Prop} {X : Exc → Prop} (I : c.Inv K P ad σ s) {x : D} {v vl vu : Value} {lo hi : Option Int} {value : Expr} {l u : Option Expr} {pos : Pos}
    (hv : Rep P x v) (pl : IsPart vl lo) (pu : IsPart vu hi) (h : (sliceD x lo hi).wp (c.PostE K P ad σ s Q) X) :
    wpAny (model c.prog c.w) c.A (subscriptTail value (.Slice l u none pos) v (.ref s.heap.objs.size)) Q Ex { s with heap := s.heap.push { cls := .type "slice", data := .fields #[vl, vu, .none] } } := by
  have J := I.grow (h' := s.heap.push { cls := .type "slice", data := .fields #[vl, vu, .none] }) (tk := s.toks) fun _ _ e => Heap.get?_push_of_some _ e
  cases x <;> first | exact h.elim | skip
  case ilist ns =>
    obtain ⟨a, vs, n, rfl, p1, p2, p3⟩ := hv
    refine tail_any (ops := [.ref s.heap.objs.size, .ref a]) (J.isin.list p1).typeIs slot_list_getitem.lookup (wpAny_getItem_list_slice (J.isin.list p1) (Heap.IsSliceOf.new ..) pl pu .none (by simp) ?_ (by simpa using p3)) rfl
    rw [slicePick_eq]
    exact h _ _ _ (J.alloc_ext _) (J.alloc _ rfl ⟨_, _, rfl⟩) ⟨_, Lim.sliceL vs lo hi, 0, rfl, addP_self .., p2.sliceL lo hi, Nat.le_trans (sliceL_len ..) p3⟩ ⟨_, _, rfl⟩
  case list xs =>
    obtain ⟨a, vs, n, rfl, p1, p2, p3⟩ := hv
    refine tail_any (ops := [.ref s.heap.objs.size, .ref a]) (J.isin.list p1).typeIs slot_list_getitem.lookup (wpAny_getItem_list_slice (J.isin.list p1) (Heap.IsSliceOf.new ..) pl pu .none (by simp) ?_ (by simpa using p3)) rfl
    rw [slicePick_eq]
    exact h _ _ _ (J.alloc_ext _) (J.alloc _ rfl ⟨_, _, rfl⟩) ⟨_, Lim.sliceL vs lo hi, 0, rfl, addP_self .., reps_all.mpr (((reps_all.mp p2).mono fun _ _ => Rep.mono (J.alloc_ext _).1).sliceL lo hi), Nat.le_trans (sliceL_len ..) p3⟩ ⟨_, _, rfl⟩
  case str x =>
    obtain ⟨⟨t, rfl⟩, o1, l1⟩ := hv
    obtain ⟨p, rfl, rfl⟩ := isPart_tok pl
    obtain ⟨q, rfl, rfl⟩ := isPart_tok pu
    have hs := slice_text x (p.map (·.1)) (q.map (·.1))
    have hsub : ∀ c ∈ Lim.sliceL x.cps.toList (p.map (·.1)) (q.map (·.1)), c ∈ x.cps.toList := fun c hc => List.mem_of_mem_drop (List.mem_of_mem_take hc)
    have hz : (mkS (Lim.sliceL x.cps.toList (p.map (·.1)) (q.map (·.1)))).cps.size ≤ LIM := Nat.le_trans (sliceL_len ..) l1
    refine tail_any (ops := [.ref s.heap.objs.size, .str x t]) (typeIs_str _ _ _) F.slot_str_getitem.lookup (wpAny_getItem_str_slice (l := p) (u := q) (st := none) ⟨_, Heap.get?_push_size _ rfl, rfl, rfl⟩ rfl ?_) rfl
    have e : sliceMade x t p q none = if (Builtin.Str.strSliceIndices (p.map (·.1)) (q.map (·.1)) 1 x.length).length = x.length then Made.val (.str x t) else Made.str ⟨((Builtin.Str.strSliceIndices (p.map (·.1)) (q.map (·.1)) 1 x.length).filterMap (x.cps[·]?)).toArray⟩ := by
      unfold sliceMade slicePicked
      simp only [Option.map_none, Option.getD_none, beq_self_eq_true, Bool.true_and, beq_iff_eq]
    rw [e]
    refine post_val_or_str ⟨?_, fun t' k => ?_⟩
    · rw [hs]; exact Nat.le_trans hz (by decide +kernel)
    · rw [hs]; exact Post1.tok J (PostE.shift h (Ext.refl K P) ⟨_, _, rfl⟩) ⟨⟨_, rfl⟩, okS_sub o1 hsub, hz⟩ k

end
end Lim

/-! List comprehensions  [f(x) for x in ..]. -/
namespace Lim
open PySem PyProof.Rows

section
variable {fr : List Addr} {F : Addr} {names : List Str} {K P : Part} {ad : Nat → Addr} {σ : List L} {s : Shared}

theorem addP_twice (K : Part) (a : Addr) (o o' : Obj) : addP (addP K a o) a o' = addP K a o' := by
  funext b; by_cases q : b = a <;> simp [addP, q]

/-- the loop's iterator: kept within a turn, turned between the turns -/
theorem Inv.kadd (I : Inv fr F names K P ad σ s) {it : Addr} {o : Obj} {h' : Heap} {tk : Nat} (hnew : s.heap.get? it = Option.none) (up : ∀ b x, s.heap.get? b = some x → h'.get? b = some x) (ho : h'.get? it = some o) :
    Inv fr F names (addP K it o) P ad σ { s with heap := h', toks := tk } ∧ P it = Option.none ∧ K it = Option.none ∧ it ≠ F := by
  have J := I.grow (tk := tk) up
  obtain ⟨m, hn, hl⟩ := I.locs
  have hF : it ≠ F := by
    obtain ⟨ob, es, ep, e, _⟩ := hn
    intro q; rw [q, e] at hnew; cases hnew
  have kI : K it = Option.none := by
    cases e : K it with
    | none => rfl
    | some ob => obtain ⟨o', h1, _⟩ := I.keep it ob e; rw [hnew] at h1; cases h1
  have pI : P it = Option.none := by
    cases e : P it with
    | none => rfl
    | some ob => have h1 := (I.isin it ob e).1; rw [hnew] at h1; cases h1
  refine ⟨⟨fun a ob e => ?_, J.isin, (addP_ne (Ne.symm hF)).trans I.kF, I.pF, I.len, ⟨m, hn.keeps up, fun i x l e1 e2 => ?_⟩, I.sep⟩, pI, kI, hF⟩
  · by_cases q : a = it
    · subst q; rw [addP_self] at e; cases e; exact ⟨_, ho, fun _ => rfl, rfl, rfl, rfl⟩
    · rw [addP_ne q] at e; exact J.keep a ob e
  · have := hl i x l e1 e2
    cases l with
    | unset => trivial
    | pin b => exact this
    | val d => exact this
    | own d =>
      obtain ⟨ob, hob⟩ := this.there
      refine ⟨this.1, this.2.1.heap fun o e => up _ _ e, (addP_ne fun q => ?_).trans this.2.2.1, this.2.2.2⟩
      rw [q, hnew] at hob; cases hob

theorem Inv.kswap {it : Addr} {o o' : Obj} (I : Inv fr F names (addP K it o) P ad σ s) {h' : Heap} {tk : Nat} (hp : P it = Option.none) (up : ∀ b x, b ≠ it → s.heap.get? b = some x → h'.get? b = some x) (ho : h'.get? it = some o') :
    Inv fr F names (addP K it o') P ad σ { s with heap := h', toks := tk } := by
  obtain ⟨m, hn, hl⟩ := I.locs
  have hF : F ≠ it := fun q => by have := I.kF; rw [q, addP_self] at this; cases this
  have off : ∀ {l : L} {i : Nat} {mv}, LRel (addP K it o) P s.heap F (ad i) mv l → (∃ d, l = .own d) → ad i ≠ it := by
    rintro l i mv r ⟨d, rfl⟩ q
    have := r.2.2.1; rw [q, addP_self] at this; cases this
  refine ⟨fun a ob e => ?_, fun a ob e => ⟨up a ob (fun q => by rw [q, hp] at e; cases e) (I.isin a ob e).1, (I.isin a ob e).2⟩, ?_, I.pF, I.len, ⟨m, hn.at' fun o e => up _ _ hF e, fun i x l e1 e2 => ?_⟩, I.sep⟩
  · by_cases q : a = it
    · subst q; rw [addP_self] at e; cases e; exact ⟨_, ho, fun _ => rfl, rfl, rfl, rfl⟩
    · rw [addP_ne q] at e
      obtain ⟨o2, h1, h2⟩ := I.keep a ob (by rw [addP_ne q]; exact e)
      exact ⟨o2, up _ _ q h1, h2⟩
  · have := I.kF; rw [addP_ne hF] at this ⊢; exact this
  · have r := hl i x l e1 e2
    cases l with
    | unset => trivial
    | pin b => exact r
    | val d => exact r
    | own d =>
      have hne := off r ⟨d, rfl⟩
      refine ⟨r.1, r.2.1.heap fun o e => up _ _ hne e, ?_, r.2.2.2⟩
      have := r.2.2.1; rw [addP_ne hne] at this ⊢; exact this

theorem Inv.kdrop {it : Addr} {o : Obj} (I : Inv fr F names (addP K it o) P ad σ s) {h' : Heap} {tk : Nat} (hk : K it = Option.none) (hp : P it = Option.none) (up : ∀ b x, b ≠ it → s.heap.get? b = some x → h'.get? b = some x) :
    Inv fr F names K P ad σ { s with heap := h', toks := tk } := by
  obtain ⟨m, hn, hl⟩ := I.locs
  have hF : F ≠ it := fun q => by have := I.kF; rw [q, addP_self] at this; cases this
  refine ⟨fun a ob e => ?_, fun a ob e => ⟨up a ob (fun q => by rw [q, hp] at e; cases e) (I.isin a ob e).1, (I.isin a ob e).2⟩, ?_, I.pF, I.len, ⟨m, hn.at' fun o e => up _ _ hF e, fun i x l e1 e2 => ?_⟩, I.sep⟩
  · have q : a ≠ it := fun q => by rw [q, hk] at e; cases e
    obtain ⟨o2, h1, h2⟩ := I.keep a ob (by rw [addP_ne q]; exact e)
    exact ⟨o2, up _ _ q h1, h2⟩
  · have := I.kF; rw [addP_ne hF] at this; exact this
  · have r := hl i x l e1 e2
    cases l with
    | unset => trivial
    | pin b => exact r
    | val d => exact r
    | own d =>
      have hne : ad i ≠ it := fun q => by have := r.2.2.1; rw [q, addP_self] at this; cases this
      refine ⟨r.1, r.2.1.heap fun o e => up _ _ hne e, ?_, r.2.2.2⟩
      have := r.2.2.1; rw [addP_ne hne] at this; exact this
theorem Ext.kdrop {P' : Part} {it : Addr} {o : Obj} (hk : K it = Option.none) (h : Ext (addP K it o) P P') : Ext K P P' := ⟨h.1, fun a e => h.2 a (by
  have q : a ≠ it := fun q => e (by rw [q]; exact hk)
  rw [addP_ne q]; exact e)⟩
theorem Ext.kany {P' : Part} {it : Addr} {o o' : Obj} (h : Ext (addP K it o) P P') : Ext (addP K it o') P P' := ⟨h.1, fun a e => h.2 a (by
  by_cases q : a = it
  · rw [q, addP_self]; exact fun x => nomatch x
  · rw [addP_ne q] at e ⊢; exact e)⟩
end

/-- an iterator over data -/
noncomputable def IterAt (c : Cx) (P : Part) (h : Heap) (it : Addr) (ds : List D) : Prop :=
  ∃ fp n Pw St, Walks c.prog c.w c.A it fp [it] n Pw St ∧ St 0 h ∧ n = ds.length ∧ (∀ b ∈ fp, b = it ∨ P b ≠ Option.none) ∧ (∀ i v d, ds[i]? = some d → Pw i v → Rep P d v) ∧ ∀ i h, St i h → ∃ o, h.get? it = some o


section
variable {fr : List Addr} {F : Addr} {names : List Str} {K K' P : Part} {ad : Nat → Addr} {σ : List L} {s : Shared}
theorem addP_same {a : Addr} {o : Obj} (h : K a = some o) : addP K a o = K := by
  funext b; by_cases q : b = a
  · subst q; rw [addP_self, h]
  · rw [addP_ne q]
/-- less is kept -/
theorem Inv.less (I : Inv fr F names K' P ad σ s) (h : Sub K K') : Inv fr F names K P ad σ s := by
  obtain ⟨m, hn, hl⟩ := I.locs
  have none_of : ∀ {a}, K' a = Option.none → K a = Option.none := fun {a} e => by
    cases q : K a with
    | none => rfl
    | some o => rw [h a o q] at e; cases e
  refine ⟨fun a o e => I.keep a o (h a o e), I.isin, none_of I.kF, I.pF, I.len, ⟨m, hn, fun i x l e1 e2 => ?_⟩, I.sep⟩
  have := hl i x l e1 e2
  cases l with
  | unset => trivial
  | pin b => exact this
  | val d => exact this
  | own d => exact ⟨this.1, this.2.1, none_of this.2.2.1, this.2.2.2⟩
/-- one kept object is turned -/
theorem Inv.turn (I : Inv fr F names K P ad σ s) {a : Addr} {o o' : Obj} {h' : Heap} {tk : Nat} (hK : K a = some o) (hp : P a = Option.none) (up : ∀ b x, b ≠ a → s.heap.get? b = some x → h'.get? b = some x) (ho : h'.get? a = some o') :
    Inv fr F names (addP K a o') P ad σ { s with heap := h', toks := tk } := by
  have I' : Inv fr F names (addP K a o) P ad σ s := by rw [addP_same hK]; exact I
  exact I'.kswap hp up ho
end
theorem Sub.put {K K' : Part} {a : Addr} {o : Obj} (h : Sub K K') (hK : K a = Option.none) : Sub K (addP K' a o) := fun b x e => by
  have q : b ≠ a := fun q => by rw [q, hK] at e; cases e
  rw [addP_ne q]; exact h b x e
/-- what a comprehension's scope must be -/
structure CompSc (scope : Scope) (x g : Str) : Prop where
  free : ∀ y ∈ scope.names, y.2 ≠ .free
  cell : ∀ y ∈ scope.names, y.2 ≠ .cell
  kind : scope.kind = .function
  names : ∀ y ∈ scope.names, y.2 = .local → scope.names.lookup y.1 = some .local
  lx : scope.names.lookup x = some .local
  xd : (x == ("__debug__" : Str)) = false
  lg : scope.names.lookup g = some .globalImplicit
  gd : (g == ("__debug__" : Str)) = false
theorem relabel_id {scope : Scope} {env : Env} (h : ∀ y ∈ scope.names, y.2 ≠ .free) : relabel scope env = scope := by
  unfold relabel
  rw [map_eq_self (l := scope.names) (fun y hy => by
    obtain ⟨n, k⟩ := y
    have : (k == NameKind.free) = false := by simpa using h _ hy
    simp [this])]
theorem mapR_len {F : Nat → List D → Res D} {f : Nat} : ∀ {ds xs : List D}, mapR F f ds = .ok xs → xs.length = ds.length ∧ ∀ (j : Nat) d, ds[j]? = some d → ∃ x, F f [d] = .ok x ∧ xs[j]? = some x
  | [], xs, h => by cases h; exact ⟨rfl, fun j d e => by simp at e⟩
  | d :: r, xs, h => by
    unfold mapR at h
    cases e : F f [d] with
    | stuck => rw [e] at h; cases h
    | exc c => rw [e] at h; cases h
    | ok x =>
      rw [e] at h
      cases e2 : mapR F f r with
      | stuck => rw [e2] at h; cases h
      | exc c => rw [e2] at h; cases h
      | ok ys =>
        rw [e2] at h
        cases h
        obtain ⟨h1, h2⟩ := mapR_len e2
        refine ⟨by simp [h1], fun j d' e' => ?_⟩
        cases j with
        | zero => simp at e'; subst e'; exact ⟨x, e, rfl⟩
        | succ j => simp at e'; obtain ⟨y, q1, q2⟩ := h2 j d' e'; exact ⟨y, q1, by simpa using q2⟩
/-- an iterator over data, or over a list that is kept -/
noncomputable def IterK (c : Cx) (K P : Part) (h : Heap) (it : Addr) (ds : List D) : Prop :=
  ∃ fp n Pw St, Walks c.prog c.w c.A it fp [it] n Pw St ∧ St 0 h ∧ n = ds.length ∧ (∀ b ∈ fp, b = it ∨ P b ≠ Option.none ∨ (b ∉ c.fr ∧ ∃ o, K b = some o)) ∧ (∀ i v d, ds[i]? = some d → Pw i v → Rep P d v) ∧ ∀ i h, St i h → ∃ o, h.get? it = some o
theorem IterAt.toK {c : Cx} {K P : Part} {h : Heap} {it : Addr} {ds : List D} (x : IterAt c P h it ds) : IterK c K P h it ds := by
  obtain ⟨fp, n, Pw, St, W, st, hn, hfp, r⟩ := x
  exact ⟨fp, n, Pw, St, W, st, hn, fun b hb => (hfp b hb).imp_right .inl, r⟩
section
variable {c : Cx}
theorem Based.sub {K K' : Part} (h : c.Based K) (hs : Sub K K') : c.Based K' := ⟨fun a o e => hs a o (h.1 a o e), fun a ha => by
  obtain ⟨o, es, n, q1, q2⟩ := h.2 a ha; exact ⟨o, es, n, hs a o q1, q2⟩⟩
theorem Based.off {K : Part} (h : c.Based K) {a : Addr} (hK : K a = Option.none) : a ∉ c.fr := fun q => by
  obtain ⟨o, es, n, q1, _⟩ := h.2 a q; rw [hK] at q1; cases q1
theorem comp_walk (ok : c.Ok) {K P : Part} {ad : Nat → Addr} {σ : List L} {s₂ : Shared} {I : Addr} {oI : Obj} {ds xs : List D} {f : Nat} {g x : Str} {px pg p2 pc pos : Pos} {iter : Expr} {scope : Scope} {E : Value → Shared → Prop}
    (sc : CompSc scope x g) (hf : c.fn[f]? = some g) (J : c.Inv (addP K I oI) P ad σ s₂) (hKI : K I = Option.none) (hPI : P I = Option.none) (hB : c.Based K) (hP0 : Sub c.P0 P)
    (hit : IterK c K P s₂.heap I ds) (hmap : mapR c.F f ds = .ok xs) (hlen : ds.length ≤ LIM) {RR : Value → Addr → Result → Shared → Prop}
    (hRR : ∀ D C oC P' vs n m s', Ext K P P' → c.Inv (addP (addP K D (listO vs n)) C oC) P' ad σ s' → Evo s₂ s' → AllV (Rep P') xs vs → vs.length ≤ sizeLine → K D = Option.none → P' D = Option.none → K C = Option.none → P' C = Option.none → D ≠ C → s'.heap.Ns C m → RR (.ref D) C (.ok .next) s') :
    wpAny (model c.prog c.w) c.A (newList []) (fun acc s₃ => wpAny (model c.prog c.w) c.A (newFunctionEnv scope c.env.globals [] [] c.env.qual none .none (some c.env)) (fun cenv s₄ =>
      codeAny (model c.prog c.w) c.A (.compStart (.ListComp (.Call (.Name g pg) [.Name x p2] [] pc) [⟨.Name x px, iter, [], 0⟩] scope pos) 0 (.ref I) acc { cenv with scope := relabel scope c.env }) (RR acc cenv.locals) s₄) E s₃) E s₂ := by
  obtain ⟨fp, n, Pw, St, W, st0, hn, hfp, hrep, hat⟩ := hit
  obtain ⟨fa, oF, fd, hmg, hoF, hdF, hcall⟩ := ok.fok f g hf
  obtain ⟨hxl, hxget⟩ := mapR_len hmap
  refine wpAny_newObj_type (wpAny_newFunctionEnv sc.cell (by intro y hy; simp at hy) (fun h₁ hns₁ hsb₁ => ?_) sc.kind)
  dsimp only at hns₁ hsb₁ ⊢
  have hnD : s₂.heap.get? s₂.heap.objs.size = Option.none := Heap.get?_none_of_le (Nat.le_refl _)
  obtain ⟨J1, pD, kD, _⟩ := J.kadd (it := s₂.heap.objs.size) (o := listO [] 0) (h' := s₂.heap.push (listO [] 0)) (tk := s₂.toks) hnD (fun _ _ e => Heap.get?_push_of_some _ e) (Heap.get?_push_size _ rfl)
  have eH : s₂.heap.push { cls := .type "list", dict := none, data := .seq ([] : List Value).toArray } = s₂.heap.push (listO [] 0) := rfl
  rw [eH] at hns₁ hsb₁ ⊢
  generalize s₂.heap.objs.size = D at *
  generalize s₂.heap.push (listO [] 0) = H2 at *
  have hnC : H2.get? H2.objs.size = Option.none := Heap.get?_none_of_le (Nat.le_refl _)
  obtain ⟨oC, hoC⟩ : ∃ o, h₁.get? H2.objs.size = some o := let ⟨o, _, _, e, _⟩ := hns₁; ⟨o, e⟩
  obtain ⟨J2, pC, kC, _⟩ := J1.kadd (it := H2.objs.size) (o := oC) (h' := h₁) (tk := s₂.toks + ([] : List (Str × Value)).length) hnC (fun b o e => hsb₁.extBut b o (Nat.ne_of_lt (Heap.lt_size e)) (Heap.get?_push_of_some _ e)) hoC
  generalize H2.objs.size = C at *
  have nDI : D ≠ I := fun q => by rw [q, addP_self] at kD; cases kD
  have nCD : C ≠ D := fun q => by rw [q, addP_self] at kC; cases kC
  have nCI : C ≠ I := fun q => by rw [addP_ne nCD, q, addP_self] at kC; cases kC
  have kD' : K D = Option.none := by rw [addP_ne nDI] at kD; exact kD
  have kC' : K C = Option.none := by rw [addP_ne nCD, addP_ne nCI] at kC; exact kC
  have offI := Based.off hB hKI
  have offD := Based.off hB kD'
  have offC := Based.off hB kC'
  have frm : ∀ {i : Nat} {h : Heap} {KX P' : Part} {s' : Shared} {oX : Obj}, St i h → h.get? I = some oX → (∀ b y, P b = some y → h.get? b = some y) → (∀ b y, b ∉ c.fr → K b = some y → h.get? b = some y) → c.Inv KX P' ad σ s' → KX I = some oX → Sub K KX → Sub P P' → St i s'.heap := by
    intro i h KX P' s' oX st hI hPh hKh I' hK hsubK hsub
    refine W.frame _ _ _ st fun b hb o e => ?_
    rcases hfp b hb with rfl | hq | ⟨hq, oK, hoK⟩
    · obtain ⟨o', g1, g2, _⟩ := I'.keep b oX hK
      rw [hI] at e; cases e
      rw [g1, g2 offI]
    rotate_left
    · rw [hKh b oK hq hoK] at e; cases e
      obtain ⟨o', g1, g2, _⟩ := I'.keep b _ (hsubK b _ hoK)
      rw [g1, g2 hq]
    · cases hpb : P b with
      | none => exact absurd hpb hq
      | some y0 =>
        have := hPh b y0 hpb
        rw [this] at e; cases e
        exact (I'.isin b _ (hsub b _ hpb)).1
  have hsz : LIM ≤ sizeLine := by decide +kernel
  have hI2 : s₂.heap.get? I = some oI := by
    obtain ⟨o', g1, g2, _⟩ := J.keep I oI (addP_self ..)
    rw [g1, g2 offI]
  have loop : codeAny (model c.prog c.w) c.A (.compLoop (.ListComp (.Call (.Name g pg) [.Name x p2] [] pc) [⟨.Name x px, iter, [], 0⟩] scope pos) 0 (.ref I) (.ref D) (compEnvC scope [] C c.env)) (RR (.ref D) C) { s₂ with heap := h₁, toks := s₂.toks + ([] : List (Str × Value)).length } := by
    refine codeAny_compLoop_tests (fun k s' => ∃ j KK oI' oC' P' vs nn m, j ≤ n ∧ j + k = n + 1 ∧ Sub K KK ∧ KK I = some oI' ∧ KK D = some (listO vs nn) ∧ KK C = some oC' ∧ c.Inv KK P' ad σ s' ∧ Ext K P P' ∧ P' I = Option.none ∧ P' D = Option.none ∧ P' C = Option.none ∧
      AllV (Rep P') (xs.take j) vs ∧ St j s'.heap ∧ s'.heap.Ns C m ∧ Evo s₂ s') ?_ (n + 1)
      ⟨0, _, oI, oC, P, [], 0, _, Nat.zero_le _, by omega, ?_, ?_, ?_, addP_self .., J2, Ext.refl K P, hPI, pD, pC, rfl, ?_, hns₁, ⟨_, _, rfl⟩⟩
    · rintro k s' ⟨j, KK, oI', oC', P', vs, nn, m, hjn, hjk, hsub, kkI, kkD, kkC, Ik, eP, pI', pD', pC', hvs, stj, hnC', ev⟩
      by_cases hj : j < n
      · refine W.item j s' _ _ hj stj fun v h' tk hPw st' hk' => ?_
        obtain ⟨oI2, hoI2⟩ := hat _ _ st'
        have I3 : c.Inv (addP KK I oI2) P' ad σ { s' with heap := h', toks := tk } := Inv.turn Ik kkI pI' (fun b y hb e => hk' b y (by simpa using hb) e) hoI2
        have hn3 : h'.Ns C m := hnC'.at' fun o e => hk' C o (by simpa using nCI) e
        refine wpAny_assign_Name (wpAny_storeName_local (lookup_relabel_local sc.lx) hn3 (fun h2 hn2 hs2 => ?_) (by simp [compEnvC, relabel, sc.kind]))
        obtain ⟨oC2, hoC2⟩ : ∃ o, h2.get? C = some o := let ⟨o, _, _, e, _⟩ := hn2; ⟨o, e⟩
        have I4 : c.Inv (addP (addP KK I oI2) C oC2) P' ad σ { s' with heap := h2, toks := tk + 1 } := Inv.turn (tk := tk + 1) I3 (by rw [addP_ne nCI]; exact kkC) pC' (fun b y hb e => hs2.extBut b y hb e) hoC2
        have hsub4 : Sub K (addP (addP KK I oI2) C oC2) := (hsub.put hKI).put kC'
        have hB4 := Based.sub hB hsub4
        show wpAny _ _ (pure true) _ _ _
        refine wpAny_pure ?_
        rw [if_pos rfl]
        obtain ⟨d, hd⟩ : ∃ d, ds[j]? = some d := ⟨ds[j]'(by omega), by simp [show j < ds.length by omega]⟩
        obtain ⟨y, hy, hxj⟩ := hxget j d hd
        have hr : Rep P' d v := (hrep j v d hd hPw).mono eP.1
        have k4D : addP (addP KK I oI2) C oC2 D = some (listO vs nn) := by rw [addP_ne (Ne.symm nCD), addP_ne nDI]; exact kkD
        have k4I : addP (addP KK I oI2) C oC2 I = some oI2 := by rw [addP_ne (Ne.symm nCI)]; exact addP_self ..
        refine Call_ (Calls.Name_function_global (by simp [compEnvC, relabel, sc.kind]) (by rw [show (compEnvC scope [] C c.env).kindOf g = (relabel scope c.env).names.lookup g from rfl, relabel_id sc.free]; exact sc.lg) (Calls.loadGlobal_global (by show Heap.Ns _ c.env.globals c.mg; rw [ok.gl]; exact ok.gns.keeps (ok.inHeap I4 hB4)) hmg ?_) sc.gd)
        refine callWith_def hdF (args_cons (wpAny_Name (wpAny_loadName_local (by simp [compEnvC, relabel, sc.kind]) (lookup_relabel_local sc.lx) hn2 (v := v) (by simp) ?_) sc.xd))
        refine args_nil ⟨ok.inHeap I4 hB4 _ _ hoF, ?_⟩
        refine hcall _ P' ad σ _ _ _ [d] [v] I4 hB4 (hP0.trans eP.1) ⟨v, [], rfl, hr, rfl⟩ ?_
        rw [hy]
        intro P2 v2 s5 e2 I5 r2 ev2
        obtain ⟨_, g1, g2, _⟩ := I5.keep D _ k4D
        rw [g2 offD] at g1
        have hvl : vs.length = j := by rw [hvs.length, List.length_take]; omega
        refine wpAny_list_append_plain (items := vs.toArray) ⟨nn, g1⟩ (fun h6 hp6 hs6 => ?_) (by rw [List.size_toArray, hvl]; omega)
        obtain ⟨n6, hg6⟩ := hp6
        have hg7 : h6.get? D = some (listO (vs ++ [v2]) n6) := by rw [hg6]; simp [listO]
        have P2D : P2 D = Option.none := by rw [e2.2 D (by rw [k4D]; exact fun z => nomatch z)]; exact pD'
        have P2I : P2 I = Option.none := by rw [e2.2 I (by rw [k4I]; exact fun z => nomatch z)]; exact pI'
        have P2C : P2 C = Option.none := by rw [e2.2 C (by rw [addP_self]; exact fun z => nomatch z)]; exact pC'
        have I7 : c.Inv (addP (addP (addP KK I oI2) C oC2) D (listO (vs ++ [v2]) n6)) P2 ad σ { s5 with heap := h6, toks := s5.toks } := Inv.turn I5 k4D P2D (fun b z hb e => hs6.extBut b z hb e) hg7
        obtain ⟨_, f1, f2, _⟩ := I5.keep C oC2 (addP_self ..)
        rw [f2 offC] at f1
        have hn5 : s5.heap.Ns C _ := hn2.at' fun o e => by
          have q : h2.get? C = some oC2 := hoC2
          have e' : h2.get? C = some o := e
          rw [q] at e'; cases e'; exact f1
        refine ⟨k - 1, by omega, j + 1, _, oI2, oC2, P2, vs ++ [v2], n6, _, by omega, by omega, hsub4.put kD', ?_, addP_self .., ?_, I7, ?_, P2I, P2D, P2C, ?_, ?_, hn5.sameBut hs6 nCD, ?_⟩
        · rw [addP_ne (Ne.symm nDI)]; exact k4I
        · rw [addP_ne nCD]; exact addP_self ..
        · exact ⟨eP.1.trans e2.1, fun a q => by
            rw [e2.2 a (fun z => q (by
              cases w : K a with
              | none => rfl
              | some o => rw [hsub4 a o w] at z; cases z))]
            exact eP.2 a q⟩
        · rw [show xs.take (j + 1) = xs.take j ++ [y] by rw [List.take_add_one, hxj]; rfl]
          exact (hvs.mono fun _ _ => Rep.mono e2.1).append ⟨v2, [], rfl, r2, rfl⟩
        · exact frm st' hoI2 (fun b z hb => (I3.isin b z (eP.1 b z hb)).1) (fun b z hb e => by
            obtain ⟨o', g1, g2, _⟩ := I3.keep b z ((hsub.put hKI) b z e)
            rw [g1, g2 hb]) I7 (by rw [addP_ne (Ne.symm nDI)]; exact k4I) (hsub4.put kD') (eP.1.trans e2.1)
        · exact (ev.trans ⟨_, _, rfl⟩).trans (ev2.trans ⟨_, _, rfl⟩)
      · have hjn' : j = n := by omega
        subst hjn'
        refine W.done s' _ _ stj fun h' tk hk' => ?_
        have K6 : Sub (addP (addP (addP K D (listO vs nn)) C oC') I oI') KK := fun a o e => by
          by_cases q1 : a = I
          · subst q1; rw [addP_self] at e; cases e; exact kkI
          · rw [addP_ne q1] at e
            by_cases q2 : a = C
            · subst q2; rw [addP_self] at e; cases e; exact kkC
            · rw [addP_ne q2] at e
              by_cases q3 : a = D
              · subst q3; rw [addP_self] at e; cases e; exact kkD
              · rw [addP_ne q3] at e; exact hsub a o e
        have I6 : c.Inv (addP (addP K D (listO vs nn)) C oC') P' ad σ { s' with heap := h', toks := tk } :=
          Inv.kdrop (Inv.less Ik K6) (by rw [addP_ne (Ne.symm nCI), addP_ne (Ne.symm nDI)]; exact hKI) pI' fun b z hb e => hk' b z (by simpa using hb) e
        have hvl : vs.length = xs.length := by rw [hvs.length, List.length_take]; omega
        refine hRR D C oC' P' vs nn m _ eP I6 (ev.trans ⟨_, _, rfl⟩) (by rwa [List.take_of_length_le (by omega)] at hvs) (by omega) kD' pD' kC' pC' (Ne.symm nCD) (hnC'.at' fun o e => hk' C o (by simpa using nCI) e)
    · exact ((show Sub K (addP K I oI) from fun b z e => by rw [addP_ne (fun q => by rw [q, hKI] at e; cases e)]; exact e).put kD').put kC'
    · rw [addP_ne (Ne.symm nCI), addP_ne (Ne.symm nDI)]; exact addP_self ..
    · rw [addP_ne (Ne.symm nCD)]; exact addP_self ..
    · exact frm st0 hI2 (fun b z hb => (J.isin b z hb).1) (fun b z hb e => by
        obtain ⟨o', g1, g2, _⟩ := J.keep b z (by rw [addP_ne (fun q => by rw [q, hKI] at e; cases e)]; exact e)
        rw [g1, g2 hb]) J2 (by rw [addP_ne (Ne.symm nCI), addP_ne (Ne.symm nDI)]; exact addP_self ..) (((show Sub K (addP K I oI) from fun b z e => by rw [addP_ne (fun q => by rw [q, hKI] at e; cases e)]; exact e).put kD').put kC') (Sub.refl P)
  refine codeAny_compStart_list loop (W.self 0 _ _ _ ?_ loop)
  exact frm st0 hI2 (fun b z hb => (J.isin b z hb).1) (fun b z hb e => by
        obtain ⟨o', g1, g2, _⟩ := J.keep b z (by rw [addP_ne (fun q => by rw [q, hKI] at e; cases e)]; exact e)
        rw [g1, g2 hb]) J2 (by rw [addP_ne (Ne.symm nCI), addP_ne (Ne.symm nDI)]; exact addP_self ..) (((show Sub K (addP K I oI) from fun b z e => by rw [addP_ne (fun q => by rw [q, hKI] at e; cases e)]; exact e).put kD').put kC') (Sub.refl P)
theorem iter_ok (hA : c.A.handled = none) {K P1 : Part} {ad : Nat → Addr} {σ : List L} {s1 : Shared} {d : D} {ds : List D} {v1 : Value} {Q : Value → Shared → Prop} {Ex : Value → Shared → Prop} (I1 : c.Inv K P1 ad σ s1) (r1 : Rep P1 d v1) (hd : seqD d = .ok ds)
    (hQ : ∀ o, o.isFreed = false → IterAt c P1 (s1.heap.push o) s1.heap.objs.size ds → Q (.ref s1.heap.objs.size) { s1 with heap := s1.heap.push o }) : wpAny (model c.prog c.w) c.A (pyIter v1) Q Ex s1 := by
  cases d <;> first | (cases hd; done) | (cases hd)
  case ilist ns =>
    obtain ⟨a, vs, n, rfl, p1, p2, p3⟩ := r1
    have hl := I1.isin.list p1
    have hne : a ≠ s1.heap.objs.size := Nat.ne_of_lt (Heap.lt_size (I1.isin _ _ p1).1)
    refine wpAny_pyIter_list hl (hQ _ rfl ⟨_, _, _, _, Walks.list hA _ a hne vs.toArray, ⟨⟨_, Heap.get?_push_size _ rfl, rfl, rfl⟩, hl.push _⟩, by simp [p2.length], ?_, ?_, fun i h st => let ⟨o, ho, _⟩ := st.1; ⟨o, ho⟩⟩)
    · intro b hb
      rcases List.mem_cons.mp hb with rfl | hb
      · exact .inl rfl
      · rw [List.mem_singleton.mp hb]; exact .inr (by rw [p1]; exact fun x => nomatch x)
    · intro i v d hd hv
      simp only [List.getElem?_map] at hd
      obtain ⟨z, hz, rfl⟩ := Option.map_eq_some_iff.mp hd
      obtain ⟨v', h1, t, rfl⟩ := p2.get hz
      have : vs[i]? = some v := by simpa using hv
      rw [h1] at this; cases this
      exact ⟨t, rfl⟩
  case list =>
    obtain ⟨a, vs, n, rfl, p1, p2, p3⟩ := r1
    have hl := I1.isin.list p1
    have hne : a ≠ s1.heap.objs.size := Nat.ne_of_lt (Heap.lt_size (I1.isin _ _ p1).1)
    refine wpAny_pyIter_list hl (hQ _ rfl ⟨_, _, _, _, Walks.list hA _ a hne vs.toArray, ⟨⟨_, Heap.get?_push_size _ rfl, rfl, rfl⟩, hl.push _⟩, by simp [(reps_all.mp p2).length], ?_, ?_, fun i h st => let ⟨o, ho, _⟩ := st.1; ⟨o, ho⟩⟩)
    · intro b hb
      rcases List.mem_cons.mp hb with rfl | hb
      · exact .inl rfl
      · rw [List.mem_singleton.mp hb]; exact .inr (by rw [p1]; exact fun x => nomatch x)
    · intro i v d hd hv
      obtain ⟨v', h1, h2⟩ := (reps_all.mp p2).get hd
      have : vs[i]? = some v := by simpa using hv
      rw [h1] at this; cases this
      exact h2
  case tup =>
    obtain ⟨a, vs, n, rfl, p1, p2, p3⟩ := r1
    have hl : s1.heap.IsTuple a vs.toArray := ⟨_, (I1.isin _ _ p1).1, rfl, n, rfl⟩
    have hne : a ≠ s1.heap.objs.size := Nat.ne_of_lt (Heap.lt_size (I1.isin _ _ p1).1)
    refine wpAny_pyIter_tuple hl (hQ _ rfl ⟨_, _, _, _, Walks.tuple hA _ a hne vs.toArray, ⟨⟨_, Heap.get?_push_size _ rfl, rfl, rfl⟩, hl.at fun o e => Heap.get?_push_of_some _ e⟩, by simp [(reps_all.mp p2).length], ?_, ?_, fun i h st => let ⟨o, ho, _⟩ := st.1; ⟨o, ho⟩⟩)
    · intro b hb
      rcases List.mem_cons.mp hb with rfl | hb
      · exact .inl rfl
      · rw [List.mem_singleton.mp hb]; exact .inr (by rw [p1]; exact fun x => nomatch x)
    · intro i v d hd hv
      obtain ⟨v', h1, h2⟩ := (reps_all.mp p2).get hd
      have : vs[i]? = some v := by simpa using hv
      rw [h1] at this; cases this
      exact h2
  case str x =>
    obtain ⟨⟨t, rfl⟩, o1, l1⟩ := r1
    have item : ∀ i v d, (x.cps.toList.map fun c => D.str ⟨#[c]⟩)[i]? = some d → SignAt x i v → Rep P1 d v := by
      rintro i v d hd ⟨c, u, hc, rfl⟩
      rw [List.getElem?_map, Array.getElem?_toList, hc] at hd
      cases hd
      refine ⟨⟨_, rfl⟩, ?_, Nat.le_of_lt (show 1 < LIM by decide)⟩
      obtain ⟨hlt, hz⟩ := Array.getElem?_eq_some_iff.mp hc
      have := Array.all_eq_true.mp o1 i hlt
      rw [hz] at this
      simpa [okS] using this
    cases ha : x.cps.all (· < 128)
    · exact wpAny_pyIter_wide ha (hQ _ rfl ⟨_, _, _, _, Walks.strWide hA _ x t, ⟨_, Heap.get?_push_size _ rfl, rfl, rfl⟩, by simp, fun b hb => .inl (List.mem_singleton.mp hb), item, fun i h st => let ⟨o, ho, _⟩ := st; ⟨o, ho⟩⟩)
    · exact wpAny_pyIter_ascii ha (hQ _ rfl ⟨_, _, _, _, Walks.strAscii hA _ x t, ⟨_, Heap.get?_push_size _ rfl, rfl, rfl⟩, by simp, fun b hb => .inl (List.mem_singleton.mp hb), item, fun i h st => let ⟨o, ho, _⟩ := st; ⟨o, ho⟩⟩)
theorem seq_split {r : Res (List D)} {G : List D → Res D} {Q : D → Prop} {X : Exc → Prop} (h : (r.bind G).wp Q X) (hx : ∀ c, r ≠ .exc c) : ∃ ds, r = .ok ds ∧ (G ds).wp Q X := by
  cases r with
  | stuck => exact h.elim
  | exc c => exact absurd rfl (hx c)
  | ok a => exact ⟨a, rfl, h⟩
theorem mapR_noexc {F : Nat → List D → Res D} {f : Nat} : ∀ {ds : List D} {c : Exc}, mapR F f ds ≠ .exc c
  | [], c, h => by cases h
  | d :: r, c, h => by
    unfold mapR at h
    cases e : F f [d] with
    | stuck => rw [e] at h; cases h
    | exc c => rw [e] at h; cases h
    | ok x =>
      rw [e] at h
      cases e2 : mapR F f r with
      | stuck => rw [e2] at h; cases h
      | exc c => exact mapR_noexc e2
      | ok ys => rw [e2] at h; cases h
theorem seqD_noexc {d : D} {c : Exc} : seqD d ≠ .exc c := by cases d <;> exact fun h => by cases h
theorem mapD_wp {F : Nat → List D → Res D} {f : Nat} {d : D} {Q : D → Prop} {X : Exc → Prop} (h : (mapD F f d).wp Q X) : ∃ ds xs, seqD d = .ok ds ∧ ds.length ≤ LIM ∧ mapR F f ds = .ok xs ∧ Q (mkList xs) := by
  obtain ⟨ds, e1, h⟩ := seq_split h fun c => seqD_noexc
  obtain ⟨h1, h⟩ := wp_ite h
  obtain ⟨xs, e2, h⟩ := seq_split h fun c => mapR_noexc
  exact ⟨ds, xs, e1, h1, e2, h⟩
theorem comp_eval (ok : c.Ok) (hA : c.A.handled = none) {K P : Part} {ad : Nat → Addr} {σ : List L} {s : Shared} {Q : Value → Shared → Prop} {Ex : Value → Shared → Prop} {d : D} {v : Value} {f : Nat} {g x : Str} {px pg p2 pc pos : Pos} {iter : Expr} {scope : Scope}
    (sc : CompSc scope x g) (hf : c.fn[f]? = some g) (I : c.Inv K P ad σ s) (hB : c.Based K) (hP : Sub c.P0 P) (hr : Rep P d v) (h : (mapD c.F f d).wp (c.PostE K P ad σ s Q) (fun _ => False)) :
    wpAny (model c.prog c.w) c.A (pyIter v) (fun it s₂ => wpAny (model c.prog c.w) c.A (newList []) (fun acc s₃ => wpAny (model c.prog c.w) c.A (newFunctionEnv scope c.env.globals [] [] c.env.qual none .none (some c.env)) (fun cenv s₄ =>
      codeAny (model c.prog c.w) c.A (.compStart (.ListComp (.Call (.Name g pg) [.Name x p2] [] pc) [⟨.Name x px, iter, [], 0⟩] scope pos) 0 it acc { cenv with scope := relabel scope c.env }) (compPost (model c.prog c.w) c.A Ex none Q acc cenv.locals) s₄) Ex s₃) Ex s₂) Ex s := by
  obtain ⟨ds, xs, e1, hlen, e2, hq⟩ := mapD_wp h
  refine iter_ok hA I hr e1 fun o hfr hit => ?_
  have hnew : s.heap.get? s.heap.objs.size = Option.none := Heap.get?_none_of_le (Nat.le_refl _)
  obtain ⟨J, pI, kI, _⟩ := I.kadd (tk := s.toks) (o := o) (h' := s.heap.push o) hnew (fun _ _ e => Heap.get?_push_of_some _ e) (Heap.get?_push_size _ hfr)
  refine comp_walk ok sc hf J kI pI hB hP hit.toK e2 hlen ?_
  intro D C oC P' vs n m s' eP I' ev hvs hvl kD pD kC pC nDC hnC
  refine ⟨m, hnC, fun h' hs' => ?_⟩
  have I2 : c.Inv (addP K D (listO vs n)) P' ad σ { s' with heap := h', toks := s'.toks } := Inv.kdrop I' (by rw [addP_ne (Ne.symm nDC)]; exact kC) pC fun b y hb e => hs'.extBut b y hb e
  obtain ⟨_, g1, g2, _⟩ := I2.keep D _ (addP_self ..)
  rw [g2 (Based.off hB kD)] at g1
  have I3 : c.Inv K P' ad σ { s' with heap := h', toks := s'.toks } := Inv.less I2 (fun b y e => by rw [addP_ne (fun q => by rw [q, kD] at e; cases e)]; exact e)
  obtain ⟨mm, hnm, hl⟩ := I2.locs
  have I4 : c.Inv K (addP P' D (listO vs n)) ad σ { s' with heap := h', toks := s'.toks } := by
    obtain ⟨m3, hn3, hl3⟩ := I3.locs
    refine ⟨I3.keep, I3.isin.addP g1 ⟨_, _, rfl⟩, I3.kF, ?_, I3.len, ⟨m3, hn3, fun i x l q1 q2 => LRel.addP pD (hl3 i x l q1 q2) ?_⟩, I3.sep⟩
    · refine (addP_ne fun q => ?_).trans I3.pF
      have := I2.kF
      rw [q, addP_self] at this; cases this
    · rintro ⟨d0, rfl⟩ q
      have := (hl i x _ q1 q2).2.2.1
      rw [q, addP_self] at this; cases this
  exact hq _ _ _ ⟨eP.1.trans (addP_sub pD), fun a z => by rw [addP_ne (fun q => z (by rw [q]; exact kD))]; exact eP.2 a z⟩ I4 (mkList_rep (addP_self ..) (reps_all.mpr (hvs.mono fun _ _ => Rep.mono (addP_sub pD))) hvl) ((show Evo s { s with heap := s.heap.push o, toks := s.toks } from ⟨_, _, rfl⟩).trans (ev.trans ⟨_, _, rfl⟩))
theorem mapD_is {F : Nat → List D → Res D} {f : Nat} {d : D} {Q : D → Prop} {X X' : Exc → Prop} (h : (mapD F f d).wp Q X) : (mapD F f d).wp Q X' := by
  obtain ⟨ds, xs, e1, hlen, e2, hq⟩ := mapD_wp h
  have e : mapD F f d = .ok (mkList xs) := by
    unfold mapD
    rw [e1]
    show (if ds.length ≤ LIM then (mapR F f ds).bind fun xs => Res.ok (mkList xs) else .stuck) = _
    rw [if_pos hlen, e2]; rfl
  rw [e]; exact hq
theorem compSc_of {scope : Scope} {x g : Str} (h : compScB scope x g = true) : CompSc scope x g := by
  simp only [compScB, Bool.and_eq_true, List.all_eq_true, bne_iff_ne, Bool.or_eq_true, beq_iff_eq, Bool.not_eq_true'] at h
  obtain ⟨⟨⟨⟨⟨h1, h2⟩, h3⟩, h4⟩, h5⟩, h6⟩ := h
  exact ⟨fun y hy => (h1 y hy).1.1, fun y hy => (h1 y hy).1.2, h2, fun y hy e => (h1 y hy).2.resolve_left fun q => q e, h3, h4, h5, h6⟩
theorem fold_of {hot : Bool} {sc : Scope} {names fn gn : List Str} {e : E} {ex : Expr} (h : chkE hot sc names fn gn e ex = true) (env : Env) (v : Value) : foldedSetIterable ex env v = pure v := by
  replace h := chkE_head h
  clear e
  cases ex <;> first | rfl | exact absurd h Bool.false_ne_true
/-- an own list is pinned: its object is kept as it is -/
theorem Inv.pinK {fr : List Addr} {F : Addr} {names : List Str} {K P : Part} {ad : Nat → Addr} {σ : List L} {s : Shared} (I : Inv fr F names K P ad σ s) {k : Nat} {x0 : D} {o : Obj} (hk : σ[k]? = some (.own x0)) (ho : s.heap.get? (ad k) = some o) :
    Inv fr F names (addP K (ad k) o) P ad (σ.set k (.pin (ad k))) s := by
  obtain ⟨m, hn, hl⟩ := I.locs
  have hlt : k < σ.length := (List.getElem?_eq_some_iff.mp hk).1
  have hkn : k < names.length := by rw [← I.len]; exact hlt
  have O := hl k names[k] _ (by simp [hkn]) hk
  refine ⟨fun a z e => ?_, I.isin, (addP_ne (Ne.symm O.2.2.2.2)).trans I.kF, I.pF, by rw [List.length_set]; exact I.len, ⟨m, hn, fun i x l e1 e2 => ?_⟩, fun i j di dj e1 e2 hne => ?_⟩
  · by_cases q : a = ad k
    · subst q; rw [addP_self] at e; cases e; exact ⟨_, ho, fun _ => rfl, rfl, rfl, rfl⟩
    · rw [addP_ne q] at e; exact I.keep a z e
  · rw [List.getElem?_set] at e2
    by_cases q : k = i
    · subst q
      rw [if_pos rfl, if_pos hlt] at e2
      cases e2
      have : names[k] = x := by simpa [hkn] using e1
      rw [← this]; exact O.1
    · rw [if_neg q] at e2
      have r := hl i x l e1 e2
      cases l with
      | unset => trivial
      | pin b => exact r
      | val d => exact r
      | own d => exact ⟨r.1, r.2.1, (addP_ne (I.sep i k d x0 e2 hk (Ne.symm q))).trans r.2.2.1, r.2.2.2⟩
  · have ni : i ≠ k := fun q => by subst q; rw [List.getElem?_set, if_pos rfl, if_pos hlt] at e1; cases e1
    have nj : j ≠ k := fun q => by subst q; rw [List.getElem?_set, if_pos rfl, if_pos hlt] at e2; cases e2
    rw [List.getElem?_set, if_neg (Ne.symm ni)] at e1
    rw [List.getElem?_set, if_neg (Ne.symm nj)] at e2
    exact I.sep i j di dj e1 e2 hne
/-- back: the pinned list is own again, and the new list is own too -/
theorem Inv.unpin {fr : List Addr} {F : Addr} {names : List Str} {K P P' : Part} {ad : Nat → Addr} {σ : List L} {s s' : Shared} (I : Inv fr F names K P ad σ s) {k i : Nat} {x0 d : D} {oA oD oC : Obj} {D C : Addr} (hik : i ≠ k) (hk : σ[k]? = some (.own x0)) (hA : s.heap.get? (ad k) = some oA)
    (I' : Inv fr F names (addP (addP (addP K (ad k) oA) D oD) C oC) P' ad (σ.set k (.pin (ad k))) s') (eP : Ext (addP K (ad k) oA) P P') (kD : addP K (ad k) oA D = Option.none) (pD : P' D = Option.none) (kC : addP K (ad k) oA C = Option.none) (pC : P' C = Option.none) (nDC : D ≠ C)
    (hoff : ∀ a, K a = Option.none → a ∉ fr) (hnd : names.Nodup) {y : Str} (hy : names[i]? = some y) {h2 h' : Heap} {tk : Nat} (hown : ∀ h : Heap, h.get? D = some oD → OwnAt P' h D d)
    (hs2 : Heap.SameBut F s'.heap h2) (hst : ∀ m, s'.heap.Ns F m → h2.Ns F (fun z => if z = y then some (.ref D) else m z)) (hs' : Heap.SameBut C h2 h') :
    Inv fr F names K P' (fun j => if j = i then D else ad j) (σ.set i (.own d)) { s' with heap := h', toks := tk } := by
  obtain ⟨m, hn, hl⟩ := I'.locs
  have hlt : k < σ.length := (List.getElem?_eq_some_iff.mp hk).1
  have hkn : k < names.length := by rw [← I.len]; exact hlt
  obtain ⟨m0, hn0, hl0⟩ := I.locs
  have O := hl0 k names[k] _ (by simp [hkn]) hk
  have nDa : D ≠ ad k := fun q => by rw [q, addP_self] at kD; cases kD
  have nCa : C ≠ ad k := fun q => by rw [q, addP_self] at kC; cases kC
  have kD' : K D = Option.none := by rw [addP_ne nDa] at kD; exact kD
  have kC' : K C = Option.none := by rw [addP_ne nCa] at kC; exact kC
  have K3 : ∀ b, addP (addP (addP K (ad k) oA) D oD) C oC b = Option.none → K b = Option.none ∧ b ≠ C ∧ b ≠ D ∧ b ≠ ad k := fun b e => by
    have q1 : b ≠ C := fun q => by rw [q, addP_self] at e; cases e
    rw [addP_ne q1] at e
    have q2 : b ≠ D := fun q => by rw [q, addP_self] at e; cases e
    rw [addP_ne q2] at e
    have q3 : b ≠ ad k := fun q => by rw [q, addP_self] at e; cases e
    rw [addP_ne q3] at e
    exact ⟨e, q1, q2, q3⟩
  obtain ⟨_, FC, FD, Fa⟩ := K3 F I'.kF
  have up : ∀ b o, b ≠ F → b ≠ C → s'.heap.get? b = some o → h'.get? b = some o := fun b o q1 q2 e => hs'.extBut b o q2 (hs2.extBut b o q1 e)
  have sub3 : Sub K (addP (addP (addP K (ad k) oA) D oD) C oC) := fun b o e => by
    rw [addP_ne (fun q => by rw [q, kC'] at e; cases e), addP_ne (fun q => by rw [q, kD'] at e; cases e), addP_ne (fun q => by rw [q, O.2.2.1] at e; cases e)]; exact e
  have getD : s'.heap.get? D = some oD := by
    obtain ⟨o', g1, g2, _⟩ := I'.keep D oD (by rw [addP_ne nDC]; exact addP_self ..)
    rw [g1, g2 (hoff D kD')]
  have getA : s'.heap.get? (ad k) = some oA := by
    obtain ⟨o', g1, g2, _⟩ := I'.keep (ad k) oA (by rw [addP_ne (Ne.symm nCa), addP_ne (Ne.symm nDa)]; exact addP_self ..)
    rw [g1, g2 (hoff _ O.2.2.1)]
  have pA : P' (ad k) = Option.none := by rw [eP.2 (ad k) (by rw [addP_self]; exact fun z => nomatch z)]; exact O.2.2.2.1
  have hFn : h'.Ns F (fun z => if z = y then some (.ref D) else m z) := (hst m hn).sameBut hs' FC
  have hiS : i < names.length := (List.getElem?_eq_some_iff.mp hy).1
  have own' : ∀ j dj, j ≠ i → (σ.set i (.own d))[j]? = some (L.own dj) → j = k ∨ ((σ.set k (.pin (ad k)))[j]? = some (L.own dj)) := fun j dj q e => by
    rw [List.getElem?_set, if_neg (Ne.symm q)] at e
    by_cases qk : j = k
    · exact .inl qk
    · right; rw [List.getElem?_set, if_neg (Ne.symm qk)]; exact e
  have ownOff : ∀ j dj, (σ.set k (.pin (ad k)))[j]? = some (L.own dj) → K (ad j) = Option.none ∧ ad j ≠ C ∧ ad j ≠ D ∧ ad j ≠ ad k := fun j dj e => by
    have hj : j < names.length := by rw [← I'.len]; exact (List.getElem?_eq_some_iff.mp e).1
    exact K3 _ (hl j names[j] _ (by simp [hj]) e).2.2.1
  refine ⟨fun b o e => ?_, fun b o e => ?_, I.kF, I'.pF, by rw [List.length_set]; exact I.len, ⟨_, hFn, fun j z l e1 e2 => ?_⟩, fun j j' dj dj' e1 e2 hne => ?_⟩
  · obtain ⟨o', g1, g2⟩ := I'.keep b o (sub3 b o e)
    exact ⟨o', up b o' (fun q => by rw [q, I.kF] at e; cases e) (fun q => by rw [q, kC'] at e; cases e) g1, g2⟩
  · exact ⟨up b o (fun q => by rw [q, I'.pF] at e; cases e) (fun q => by rw [q, pC] at e; cases e) (I'.isin b o e).1, (I'.isin b o e).2⟩
  · rw [List.getElem?_set] at e2
    by_cases q : i = j
    · subst q
      rw [if_pos rfl, if_pos (by rw [I.len]; exact hiS)] at e2
      cases e2
      have : z = y := by rw [hy] at e1; cases e1; rfl
      subst this
      refine ⟨by simp, ?_, ?_, ?_, ?_⟩
      · simp only [if_pos]; exact hown h' (up D oD (Ne.symm FD) nDC getD)
      · simp only [if_pos]; exact kD'
      · simp only [if_pos]; exact pD
      · simp only [if_pos]; exact Ne.symm FD
    · rw [if_neg q] at e2
      have zy : z ≠ y := fun r => q ((List.getElem?_inj (List.getElem?_eq_some_iff.mp hy).1 hnd).mp (hy.trans (r ▸ e1).symm))
      show LRel K P' h' F (if j = i then D else ad j) (if z = y then some (.ref D) else m z) l
      rw [if_neg (Ne.symm q), if_neg zy]
      by_cases qk : j = k
      · subst qk
        rw [hk] at e2
        cases e2
        have r := hl j z (.pin (ad j)) e1 (by rw [List.getElem?_set, if_pos rfl, if_pos hlt])
        refine ⟨r, ?_, O.2.2.1, pA, O.2.2.2.2⟩
        have Oa : OwnAt P s.heap (ad j) x0 := O.2.1
        exact (Oa.heap fun o e => by rw [hA] at e; cases e; exact up _ _ O.2.2.2.2 (Ne.symm nCa) getA).mono eP.1
      · have r := hl j z l e1 (by rw [List.getElem?_set, if_neg (Ne.symm qk)]; exact e2)
        cases l with
        | unset => trivial
        | pin b => exact r
        | val dd => exact r
        | own dd =>
          obtain ⟨w1, w2, w3, w4⟩ := K3 _ r.2.2.1
          exact ⟨r.1, r.2.1.heap fun o e => up _ _ r.2.2.2.2 w2 e, w1, r.2.2.2.1, r.2.2.2.2⟩
  · have D_off : ∀ j0 d0, j0 ≠ i → (σ.set i (.own d))[j0]? = some (L.own d0) → ad j0 ≠ D := fun j0 d0 q e => by
      rcases own' j0 d0 q e with rfl | e'
      · exact Ne.symm nDa
      · exact (ownOff j0 d0 e').2.2.1
    show (if j = i then D else ad j) ≠ (if j' = i then D else ad j')
    by_cases q : j = i
    · rw [if_pos q, if_neg (fun q' => hne (q.trans q'.symm))]
      exact Ne.symm (D_off j' dj' (fun q' => hne (q.trans q'.symm)) e2)
    · rw [if_neg q]
      by_cases q' : j' = i
      · rw [if_pos q']; exact D_off j dj q e1
      · rw [if_neg q']
        rcases own' j dj q e1 with rfl | e3
        · rcases own' j' dj' q' e2 with rfl | e4
          · exact absurd rfl hne
          · exact Ne.symm (ownOff j' dj' e4).2.2.2
        · rcases own' j' dj' q' e2 with rfl | e4
          · exact (ownOff j dj e3).2.2.2
          · exact I'.sep j j' dj dj' e3 e4 hne
end
end Lim

set_option maxHeartbeats 4000000
/-! Soundness of expressions. -/
namespace Lim
open PySem PyProof.Rows
section
variable {c : Cx}
mutual
theorem soundE (ok : c.Ok) : ∀ (e : E) (ex : Expr), chkE c.hot c.env.scope c.names c.fn c.gn e ex = true → c.SoundE e ex
  | .var i, ex, hc => by
    obtain ⟨x, pos, rfl, hx, hl⟩ := chkVar_inv hc
    intro K P ad σ s Q Ex I hB hP h
    obtain ⟨d, hd, h⟩ := varD_wp h
    exact var_ok ok I hx hl hd h
  | .glob g, ex, hc => by
    replace hc := onName_inv hc
    obtain ⟨x, pos, rfl, hc⟩ := hc
    simp only [Bool.and_eq_true, beq_iff_eq] at hc
    intro K P ad σ s Q Ex I hB hP h
    obtain ⟨d, hd, h⟩ := globD_wp h
    obtain ⟨v, hv, hr⟩ := ok.gok g d x hd hc.1
    exact glob_ok ok I hB hc.2 hv (Post1.same I h (hr.mono hP))
  | .none, ex, hc => by
    replace hc := onNone_inv hc
    obtain ⟨_, _, rfl, hc⟩ := hc
    intro K P ad σ s Q Ex I hB hP h
    exact wpAny_Constant_none (Post1.same I h rfl)
  | .bool b, ex, hc => by
    replace hc := onBoolC_inv hc
    obtain ⟨_, _, _, rfl, hc⟩ := hc
    simp only [beq_iff_eq] at hc
    subst hc
    intro K P ad σ s Q Ex I hB hP h
    exact wpAny_Constant_bool (Post1.same I h rfl)
  | .int n, ex, hc => by
    replace hc := onIntC_inv hc
    obtain ⟨_, _, _, rfl, hc⟩ := hc
    simp only [beq_iff_eq] at hc
    subst hc
    intro K P ad σ s Q Ex I hB hP h
    exact wpAny_Constant_int (Post1.tok I h ⟨_, rfl⟩ _)
  | .str x, ex, hc => by
    replace hc := onStrC_inv hc
    obtain ⟨_, _, _, rfl, hc⟩ := hc
    simp only [Bool.and_eq_true, beq_iff_eq, decide_eq_true_eq] at hc
    obtain ⟨⟨rfl, h1⟩, h2⟩ := hc
    intro K P ad σ s Q Ex I hB hP h
    exact wpAny_Constant_str (Post1.tok I h ⟨⟨_, rfl⟩, h1, h2⟩ _)
  | .bin op a b, ex, hc => by
    replace hc := onBinOp_inv hc
    obtain ⟨l, o, r, pos, rfl, hc⟩ := hc
    simp only [Bool.and_eq_true, beq_iff_eq] at hc
    obtain ⟨⟨rfl, h1⟩, h2⟩ := hc
    intro K P ad σ s Q Ex I hB hP h
    refine wpAny_BinOp (soundE ok a l h1 K P ad σ s _ _ I hB hP (Res.wp_mono (Res.wp_bind.mp h) (fun x hx P1 v1 s1 e1 I1 r1 v1' => ?_) fun _ y => y))
    refine soundE ok b r h2 K P1 ad σ s1 _ _ I1 hB (hP.trans e1.1) (Res.wp_mono (Res.wp_bind.mp hx) (fun y hy P2 v2 s2 e2 I2 r2 v2' => ?_) fun _ y => PostX.shift y e1 v1')
    exact binop_ok I2 (r1.mono e2.1) r2 (Res.wp_mono hy (fun d hd => PostE.shift hd (e1.trans e2) (v1'.trans v2')) fun _ y => y)
  | .neg a, ex, hc => by
    replace hc := onUn_inv hc
    obtain ⟨x, pos, rfl, hc⟩ := hc
    intro K P ad σ s Q Ex I hB hP h
    refine wpAny_UnaryOp (soundE ok a x hc K P ad σ s _ _ I hB hP (Res.wp_mono (Res.wp_bind.mp h) (fun d hd P1 v1 s1 e1 I1 r1 v1' => ?_) fun _ y => y))
    cases d <;> first | exact hd.elim | skip
    obtain ⟨t, rfl⟩ := r1
    exact PySem.P.neg_int (Post1.tok I1 (PostE.shift hd e1 v1') ⟨_, rfl⟩ _)
  | .not a, ex, hc => by
    replace hc := onUn_inv hc
    obtain ⟨x, pos, rfl, hc⟩ := hc
    intro K P ad σ s Q Ex I hB hP h
    refine wpAny_UnaryOp (soundE ok a x hc K P ad σ s _ _ I hB hP (Res.wp_mono (Res.wp_bind.mp h) (fun d hd P1 v1 s1 e1 I1 r1 v1' => ?_) fun _ y => y))
    cases d <;> first | exact hd.elim | skip
    cases r1
    exact not_value (wpAny_truthy_bool (Post1.same I1 (PostE.shift hd e1 v1') rfl))
  | .cmp op a b, ex, hc => by
    replace hc := onCmp_inv hc
    obtain ⟨l, o, r, pos, rfl, hc⟩ := hc
    simp only [Bool.and_eq_true, beq_iff_eq] at hc
    obtain ⟨⟨rfl, h1⟩, h2⟩ := hc
    intro K P ad σ s Q Ex I hB hP h
    refine wpAny_Compare1 (soundE ok a l h1 K P ad σ s _ _ I hB hP (Res.wp_mono (Res.wp_bind.mp h) (fun x hx P1 v1 s1 e1 I1 r1 v1' => ?_) fun _ y => y)) (chkE_marks h2 _)
    refine soundE ok b r h2 K P1 ad σ s1 _ _ I1 hB (hP.trans e1.1) (Res.wp_mono (Res.wp_bind.mp hx) (fun y hy P2 v2 s2 e2 I2 r2 v2' => ?_) fun _ y => PostX.shift y e1 v1')
    exact cmpop_ok ok.un I2 (r1.mono e2.1) r2 (Res.wp_mono hy (fun d hd => PostE.shift hd (e1.trans e2) (v1'.trans v2')) fun _ y => y)
  | .isInt a, ex, hc => by
    replace hc := onIsInt_inv hc
    obtain ⟨f, p1, x, p2, g, p3, pos, rfl, hc⟩ := hc
    simp only [Bool.and_eq_true, beq_iff_eq] at hc
    obtain ⟨⟨⟨⟨rfl, h1⟩, rfl⟩, h2⟩, h3⟩ := hc
    intro K P ad σ s Q Ex I hB hP h
    refine wpAny_Compare1 (Call_ (blt_ok ok I hB h1 (v := .type "type") (by simp [bltins]) (PyProof.Rows.callWith_type1 (args_cons (soundE ok a x h3 K P ad σ s _ _ I hB hP (Res.wp_mono (Res.wp_bind.mp h) (fun d hd P1 v1 s1 e1 I1 r1 v1' => ?_) fun _ y => y)) (chkE_plain h3 _ _)) (chkE_plain h3 _ _)))) (by rfl)
    cases d <;> first | exact hd.elim | skip
    obtain ⟨t, rfl⟩ := r1
    refine args_nil ?_
    refine call_type_of (typeIs_int s1 _ t) (by decide) (blt_ok ok I1 hB h2 (v := .type "int") (by simp [bltins]) (wpAny_is_self (by rfl) (Post1.same I1 (PostE.shift hd e1 v1') rfl)))
  | .and _ _, ex, hc => absurd hc Bool.false_ne_true
  | .or3 _ _ _, ex, hc => absurd hc Bool.false_ne_true
  | .ite t a b, ex, hc => by
    replace hc := onIfExp_inv hc
    obtain ⟨tt, x, y, pos, rfl, hc⟩ := hc
    simp only [Bool.and_eq_true] at hc
    obtain ⟨⟨h1, h2⟩, h3⟩ := hc
    intro K P ad σ s Q Ex I hB hP h
    refine wpAny_IfExp (soundT ok t tt h1 K P ad σ s _ _ I hB hP (Res.wp_mono (Res.wp_bind.mp h) (fun d hd => ?_) fun _ y => y))
    cases d <;> first | exact hd.elim | skip
    rename_i bb
    refine ⟨bb, rfl, fun P1 s1 e1 I1 v1' => ?_⟩
    cases bb
    · exact soundE ok b y h3 K P1 ad σ s1 _ _ I1 hB (hP.trans e1.1) (Res.wp_mono hd (fun y hy => PostE.shift hy e1 v1') fun _ y => PostX.shift y e1 v1')
    · exact soundE ok a x h2 K P1 ad σ s1 _ _ I1 hB (hP.trans e1.1) (Res.wp_mono hd (fun y hy => PostE.shift hy e1 v1') fun _ y => PostX.shift y e1 v1')
  | .item a i, ex, hc => by
    replace hc := onSubscript_inv hc
    obtain ⟨v, sl, pos, rfl, hc⟩ := hc
    simp only [Bool.and_eq_true] at hc
    obtain ⟨h1, h2⟩ := hc
    intro K P ad σ s Q Ex I hB hP h
    refine Subscript_ (soundE ok a v h1 K P ad σ s _ _ I hB hP (Res.wp_mono (Res.wp_bind.mp h) (fun x hx P1 v1 s1 e1 I1 r1 v1' => ?_) fun _ y => y))
    refine soundE ok i sl h2 K P1 ad σ s1 _ _ I1 hB (hP.trans e1.1) (Res.wp_mono (Res.wp_bind.mp hx) (fun y hy P2 v2 s2 e2 I2 r2 v2' => ?_) fun _ y => PostX.shift y e1 v1')
    exact subs_ok I2 (r1.mono e2.1) r2 (chkE_sub h2 _ _) (Res.wp_mono hy (fun d hd => PostE.shift hd (e1.trans e2) (v1'.trans v2')) fun _ y => y)
  | .itemV k i, ex, hc => by
    replace hc := onSubscript_inv hc
    obtain ⟨v, sl, pos, rfl, hc⟩ := hc
    simp only [Bool.and_eq_true] at hc
    obtain ⟨h1, h2⟩ := hc
    obtain ⟨x, px, rfl, hx, hl⟩ := chkVar_inv h1
    intro K P ad σ s Q Ex I hB hP h
    rcases heldD_wp (Res.wp_bind.mp h) with ⟨d, hd, h⟩ | ⟨d, hd, h⟩
    · refine Subscript_ (var_ok ok I hx hl hd fun P1 v1 s1 e1 I1 r1 v1' => ?_)
      refine soundE ok i sl h2 K P1 ad σ s1 _ _ I1 hB (hP.trans e1.1) (Res.wp_mono (Res.wp_bind.mp h) (fun y hy P2 v2 s2 e2 I2 r2 v2' => ?_) fun _ y => PostX.shift y e1 v1')
      exact subs_ok I2 (r1.mono e2.1) r2 (chkE_sub h2 _ _) (Res.wp_mono hy (fun d hd => PostE.shift hd (e1.trans e2) (v1'.trans v2')) fun _ y => y)
    · refine Subscript_ (own_ok ok I hx hl hd fun hat => ?_)
      refine soundE ok i sl h2 K P ad σ s _ _ I hB hP (Res.wp_mono (Res.wp_bind.mp h) (fun y hy P2 v2 s2 e2 I2 r2 v2' => ?_) fun _ y => y)
      obtain ⟨_, _, _, hat2, _⟩ := I2.ownAt hx hd
      exact subs_own I2 hat2 r2 (chkE_sub h2 _ _) (Res.wp_mono hy (fun d hd => PostE.shift hd e2 v2') fun _ y => y)
  | .slice a lo hi, ex, hc => by
    replace hc := onSl_inv hc
    obtain ⟨v, l, u, p, pos, rfl, hc⟩ := hc
    simp only [Bool.and_eq_true] at hc
    obtain ⟨⟨h1, h2⟩, h3⟩ := hc
    intro K P ad σ s Q Ex I hB hP h
    refine Subscript_ (soundE ok a v h1 K P ad σ s _ _ I hB hP (Res.wp_mono (Res.wp_bind.mp h) (fun x hx P1 v1 s1 e1 I1 r1 v1' => ?_) fun _ y => y))
    refine wpAny_Slice (soundO ok lo l h2 K P1 ad σ s1 _ _ I1 hB (hP.trans e1.1) (Res.wp_mono (Res.wp_bind.mp hx) (fun y hy P2 v2 s2 e2 I2 r2 v2' => ?_) fun _ y => PostX.shift y e1 v1'))
    refine soundO ok hi u h3 K P2 ad σ s2 _ _ I2 hB ((hP.trans e1.1).trans e2.1) (Res.wp_mono (Res.wp_bind.mp hy) (fun z hz P3 v3 s3 e3 I3 r3 v3' => ?_) fun _ y => PostX.shift y (e1.trans e2) (v1'.trans v2'))
    refine wpAny_pure ?_
    exact slice_ok I3 (r1.mono (e2.1.trans e3.1)) r2 r3 (Res.wp_mono hz (fun d hd => PostE.shift hd ((e1.trans e2).trans e3) ((v1'.trans v2').trans v3')) fun _ y => y)
  | .len a, ex, hc => by
    replace hc := onCall1_inv hc
    obtain ⟨f, p1, x, pos, rfl, hc⟩ := hc
    simp only [Bool.and_eq_true, beq_iff_eq] at hc
    obtain ⟨⟨rfl, h1⟩, h3⟩ := hc
    intro K P ad σ s Q Ex I hB hP h
    refine Call_ (blt_ok ok I hB h1 (v := .builtin "len") (by simp [bltins]) (callWith_builtin1 (args_cons (soundE ok a x h3 K P ad σ s _ _ I hB hP (Res.wp_mono (Res.wp_bind.mp h) (fun d hd P1 v1 s1 e1 I1 r1 v1' => ?_) fun _ y => y)) (chkE_plain h3 _ _)) (chkE_plain h3 _ _)))
    refine args_nil ?_
    exact len_ok I1 r1 (Res.wp_mono hd (fun d hd => PostE.shift hd e1 v1') fun _ y => y)
  | .lenV k, ex, hc => by
    replace hc := onCall1_inv hc
    obtain ⟨f, p1, x, pos, rfl, hc⟩ := hc
    simp only [Bool.and_eq_true, beq_iff_eq] at hc
    obtain ⟨⟨rfl, h1⟩, h3⟩ := hc
    obtain ⟨x, px, rfl, hx, hl⟩ := chkVar_inv h3
    intro K P ad σ s Q Ex I hB hP h
    refine Call_ (blt_ok ok I hB h1 (v := .builtin "len") (by simp [bltins]) (callWith_builtin1 (args_cons ?_)))
    rcases heldD_wp (Res.wp_bind.mp h) with ⟨d, hd, h⟩ | ⟨d, hd, h⟩
    · refine var_ok ok I hx hl hd fun P1 v1 s1 e1 I1 r1 v1' => ?_
      refine args_nil ?_
      exact len_ok I1 r1 (Res.wp_mono h (fun d hd => PostE.shift hd e1 v1') fun _ y => y)
    · refine own_ok ok I hx hl hd fun hat => ?_
      refine args_nil ?_
      exact len_own I hat h
  | .max a b, ex, hc => by
    replace hc := onCall2_inv hc
    obtain ⟨f, p1, x, y, pos, rfl, hc⟩ := hc
    simp only [Bool.and_eq_true, beq_iff_eq] at hc
    obtain ⟨⟨⟨⟨hh, rfl⟩, h1⟩, h2⟩, h3⟩ := hc
    intro K P ad σ s Q Ex I hB hP h
    have hpl : (backTo pos (starEach [y] c.env)).any (·.1) = false := by rw [chkE_plain h3]; rfl
    refine Call_ (blt_ok ok I hB h1 (v := .builtin "max") (by simp [bltins]) (callWith_builtin1 (args_cons (soundE ok a x h2 K P ad σ s _ _ I hB hP (Res.wp_mono (Res.wp_bind.mp h) (fun d hd P1 v1 s1 e1 I1 r1 v1' => ?_) fun _ y => y)) (chkE_plain h2 _ _)) (chkE_plain h2 _ _) hpl))
    refine args_cons (soundE ok b y h3 K P1 ad σ s1 _ _ I1 hB (hP.trans e1.1) (Res.wp_mono (Res.wp_bind.mp hd) (fun d' hd' P2 v2 s2 e2 I2 r2 v2' => ?_) fun _ y => PostX.shift y e1 v1')) (chkE_plain h3 _ _)
    refine args_nil ?_
    cases d <;> cases d' <;> first | exact hd'.elim | skip
    rename_i i j
    obtain ⟨t, rfl⟩ := r1; obtain ⟨t', rfl⟩ := r2
    refine max_two_ints (ok.hA (by simpa using hh)) fun h' tk hk => ?_
    refine hd' P2 _ _ (e1.trans e2) (I2.grow (tk := tk) hk) ?_ ((v1'.trans v2').trans ⟨_, _, rfl⟩)
    by_cases q : i < j
    · rw [if_pos q, if_pos (show j > i from q)]; exact ⟨_, rfl⟩
    · rw [if_neg q, if_neg (show ¬ j > i from q)]; exact ⟨_, rfl⟩
  | .abs a, ex, hc => by
    replace hc := onCall1_inv hc
    obtain ⟨f, p1, x, pos, rfl, hc⟩ := hc
    simp only [Bool.and_eq_true, beq_iff_eq] at hc
    obtain ⟨⟨rfl, h1⟩, h3⟩ := hc
    intro K P ad σ s Q Ex I hB hP h
    refine Call_ (blt_ok ok I hB h1 (v := .builtin "abs") (by simp [bltins]) (callWith_builtin1 (args_cons (soundE ok a x h3 K P ad σ s _ _ I hB hP (Res.wp_mono (Res.wp_bind.mp h) (fun d hd P1 v1 s1 e1 I1 r1 v1' => ?_) fun _ y => y)) (chkE_plain h3 _ _)) (chkE_plain h3 _ _)))
    refine args_nil ?_
    cases d <;> first | exact hd.elim | skip
    obtain ⟨t, rfl⟩ := r1
    exact PyProof.Rows.call_abs_int fun u tk => Post1.tok I1 (PostE.shift hd e1 v1') ⟨_, rfl⟩ _
  | .strOf a, ex, hc => by
    replace hc := onCall1_inv hc
    obtain ⟨f, p1, x, pos, rfl, hc⟩ := hc
    simp only [Bool.and_eq_true, beq_iff_eq] at hc
    obtain ⟨⟨rfl, h1⟩, h3⟩ := hc
    intro K P ad σ s Q Ex I hB hP h
    refine Call_ (blt_ok ok I hB h1 (v := .type "str") (by simp [bltins]) (PyProof.Rows.callWith_type1 (args_cons (soundE ok a x h3 K P ad σ s _ _ I hB hP (Res.wp_mono (Res.wp_bind.mp h) (fun d hd P1 v1 s1 e1 I1 r1 v1' => ?_) fun _ y => y)) (chkE_plain h3 _ _)) (chkE_plain h3 _ _)))
    refine args_nil ?_
    exact str_ok I1 r1 (Res.wp_mono hd (fun d hd => PostE.shift hd e1 v1') fun _ y => y)
  | .intOf a, ex, hc => by
    replace hc := onCall1_inv hc
    obtain ⟨f, p1, x, pos, rfl, hc⟩ := hc
    simp only [Bool.and_eq_true, beq_iff_eq] at hc
    obtain ⟨⟨rfl, h1⟩, h3⟩ := hc
    intro K P ad σ s Q Ex I hB hP h
    refine Call_ (blt_ok ok I hB h1 (v := .type "int") (by simp [bltins]) (PyProof.Rows.callWith_type1 (args_cons (soundE ok a x h3 K P ad σ s _ _ I hB hP (Res.wp_mono (Res.wp_bind.mp h) (fun d hd P1 v1 s1 e1 I1 r1 v1' => ?_) fun _ y => y)) (chkE_plain h3 _ _)) (chkE_plain h3 _ _)))
    refine args_nil ?_
    exact int_ok I1 r1 (Res.wp_mono hd (fun d hd => PostE.shift hd e1 v1') fun _ y => y)
  | .ord a, ex, hc => by
    replace hc := onCall1_inv hc
    obtain ⟨f, p1, x, pos, rfl, hc⟩ := hc
    simp only [Bool.and_eq_true, beq_iff_eq] at hc
    obtain ⟨⟨rfl, h1⟩, h3⟩ := hc
    intro K P ad σ s Q Ex I hB hP h
    refine Call_ (blt_ok ok I hB h1 (v := .builtin "ord") (by simp [bltins]) (callWith_builtin1 (args_cons (soundE ok a x h3 K P ad σ s _ _ I hB hP (Res.wp_mono (Res.wp_bind.mp h) (fun d hd P1 v1 s1 e1 I1 r1 v1' => ?_) fun _ y => y)) (chkE_plain h3 _ _)) (chkE_plain h3 _ _)))
    refine args_nil ?_
    exact ord_ok I1 r1 (Res.wp_mono hd (fun d hd => PostE.shift hd e1 v1') fun _ y => y)
  | .zfill4 a, ex, hc => by
    replace hc := onMeth1_inv hc
    obtain ⟨v, n, pa, y, pc, rfl, hc⟩ := hc
    simp only [Bool.and_eq_true, beq_iff_eq] at hc
    obtain ⟨⟨⟨⟨hpos, rfl⟩, h1⟩, h2⟩, h3⟩ := hc
    obtain ⟨i, ki, pi, rfl, hi⟩ := onIntC_inv h1
    cases eq_of_beq hi
    have hb : ∀ env, attributeBase v "zfill" env (eval v env) = eval v env := fun env => by
      obtain ⟨_, _, _, _, rfl, _⟩ := onCall1_inv h2; rfl
    intro K P ad σ s Q Ex I hB hP h
    refine MethodCall_ (soundE ok a v h3 K P ad σ s _ _ I hB hP (Res.wp_mono (Res.wp_bind.mp h) (fun d hd P1 v1 s1 e1 I1 r1 v1' => ?_) fun _ y => y)) (method1 (hb _) rfl hpos)
    exact zfill_ok I1 r1 (Res.wp_mono hd (fun d hd => PostE.shift hd e1 v1') fun _ y => y)
  | .joinE a, ex, hc => by
    replace hc := onMeth1_inv hc
    obtain ⟨v, n, pa, y, pc, rfl, hc⟩ := hc
    simp only [Bool.and_eq_true, beq_iff_eq] at hc
    obtain ⟨⟨⟨hpos, h1⟩, rfl⟩, h3⟩ := hc
    obtain ⟨i, ki, pi, rfl, hi⟩ := onStrC_inv h1
    cases eq_of_beq hi
    intro K P ad σ s Q Ex I hB hP h
    refine MethodCall_ (wpAny_Constant_str ?_) (method1 rfl (chkE_plain h3 _ _) hpos)
    with_reducible refine GM.join ?_
    have I0 := I.toks (s.toks + 1)
    refine callWith_method1 (args_cons (soundE ok a y h3 K P ad σ _ _ _ I0 hB hP (Res.wp_mono (Res.wp_bind.mp h) (fun d hd P1 v1 s1 e1 I1 r1 v1' => ?_) fun _ y => PostX.shift y (Ext.refl K P) ⟨_, _, rfl⟩)) (chkE_plain h3 _ _)) (chkE_plain h3 _ _)
    refine args_nil ?_
    exact join_ok I1 r1 (Res.wp_mono hd (fun d hd => PostE.shift hd e1 (Evo.trans ⟨_, _, rfl⟩ v1')) fun _ y => y)
  | .bot, _, _ => fun K P ad σ s Q Ex I hB hP h => h.elim
  | .tupMap f a, ex, hc => by
    replace hc := onCall1_inv hc
    obtain ⟨t, p1, y, pos, rfl, hc⟩ := hc
    simp only [Bool.and_eq_true, beq_iff_eq] at hc
    obtain ⟨⟨⟨hh, rfl⟩, h1⟩, h2⟩ := hc
    obtain ⟨g, pg, x, p2, pc, px, iter, scope, ps, rfl, h3⟩ := onLComp_inv h2
    simp only [Bool.and_eq_true, beq_iff_eq] at h3
    obtain ⟨⟨hf, hsc⟩, ha⟩ := h3
    have hA := ok.hA (by simpa using hh)
    have sc := compSc_of hsc
    intro K P ad σ s Q Ex I hB hP h
    refine Call_ (blt_ok ok I hB h1 (v := .type "tuple") (by simp [bltins]) (PyProof.Rows.callWith_type1 (args_cons ?_)))
    rw [eval_ListComp]
    refine wpAny_comprehension_free (use := none) rfl (fold_of ha _) (closureFor_none sc.free) sc.kind sc.names (soundE ok a iter ha K P ad σ s _ _ I hB hP (Res.wp_mono (Res.wp_bind.mp h) (fun d hd P1 v1 s1 e1 I1 r1 v1' => ?_) fun _ y => y))
    refine comp_eval ok hA sc hf I1 hB (hP.trans e1.1) r1 (mapD_is (X := fun _ => True) (Res.wp_mono (Res.wp_bind.mp hd) (fun y hy P2 v2 s2 e2 I2 r2 v2' => ?_) fun _ _ => trivial))
    refine args_nil ?_
    cases y <;> first | exact hy.elim | skip
    case ilist ns =>
      obtain ⟨b, vs, n, rfl, q1, q2, q3⟩ := r2
      refine call_tuple_list (I2.isin.list q1) (fun h' hk => ?_) (by simpa using q3)
      have I3 := I2.grow (tk := s2.toks) hk
      have hr : ∀ {ns : List Int} {vs : List Value} {P' : Part}, AllV IsI ns vs → Reps P' (ns.map .int) vs := by
        intro ns
        induction ns with
        | nil => intro vs P' z; exact z
        | cons m r ih =>
          rintro vs P' ⟨w, ws, rfl, z1, z2⟩
          exact ⟨w, ws, rfl, z1, ih z2⟩
      exact Post1.new I3 (PostE.shift hy (e1.trans e2) ((v1'.trans v2').trans ⟨_, _, rfl⟩)) rfl ⟨_, _, rfl⟩ ⟨_, vs, 0, rfl, addP_self .., hr q2, q3⟩
    case list xs =>
      obtain ⟨b, vs, n, rfl, q1, q2, q3⟩ := r2
      refine call_tuple_list (I2.isin.list q1) (fun h' hk => ?_) (by simpa using q3)
      have I3 := I2.grow (tk := s2.toks) hk
      exact Post1.new I3 (PostE.shift hy (e1.trans e2) ((v1'.trans v2').trans ⟨_, _, rfl⟩)) rfl ⟨_, _, rfl⟩ ⟨_, vs, 0, rfl, addP_self .., q2.mono (addP_sub I3.isin.size), q3⟩
  | .call f args, ex, hc => by
    replace hc := onCallN_inv hc
    obtain ⟨x, p1, es, pos, rfl, hc⟩ := hc
    simp only [Bool.and_eq_true, beq_iff_eq] at hc
    obtain ⟨⟨⟨h1, h2⟩, h3⟩, h4⟩ := hc
    intro K P ad σ s Q Ex I hB hP h
    obtain ⟨fa, o, fd, hm, ho, hd, hcall⟩ := ok.fok f x h1
    refine Call_ (glob_ok ok I hB h2 hm ?_)
    cases args with
    | nil => simp at h3
    | cons e0 rest =>
      cases es with
      | nil => exact absurd h4 Bool.false_ne_true
      | cons x0 xs =>
        have h5 : chkE c.hot c.env.scope c.names c.fn c.gn e0 x0 = true := (and_inv h4).1
        refine callWith_def hd (soundEs ok (e0 :: rest) (x0 :: xs) h4 K P ad σ s _ _ pos I hB hP (Res.wp_mono (Res.wp_bind.mp h) (fun ds hds P1 vs s1 e1 I1 r1 v1' => ?_) fun _ y => y)) (chkE_plain h5 _ _)
        exact ⟨ok.inHeap I1 hB _ _ ho, hcall K P1 ad σ s1 _ _ ds vs I1 hB (hP.trans e1.1) r1 (Res.wp_mono hds (fun d hd => PostE.shift hd e1 v1') fun _ y => PostX.shift y e1 v1')⟩
  | .tup es, ex, hc => by
    replace hc := onTuple_inv hc
    obtain ⟨xs, k, pos, rfl, hc⟩ := hc
    simp only [Bool.and_eq_true, decide_eq_true_eq] at hc
    obtain ⟨h1, h2⟩ := hc
    intro K P ad σ s Q Ex I hB hP h
    refine wpAny_Tuple (soundEs ok es xs h2 K P ad σ s _ _ pos I hB hP (Res.wp_mono (evalEs_len (Res.wp_bind.mp h)) (fun ds hds P1 vs s1 e1 I1 r1 v1' => ?_) fun _ y => y))
    have hl : vs.length ≤ sizeLine := by
      rw [(reps_all.mp r1).length, hds.2, chkEs_len h2]; exact Nat.le_trans h1 (by decide +kernel)
    exact ⟨hl, Post1.new I1 (PostE.shift hds.1 e1 v1') rfl ⟨_, _, rfl⟩ ⟨_, vs, 0, rfl, addP_self .., r1.mono (addP_sub I1.isin.size), hl⟩⟩
  | .list es, ex, hc => by
    replace hc := onList_inv hc
    obtain ⟨xs, pos, rfl, hc⟩ := hc
    simp only [Bool.and_eq_true, decide_eq_true_eq] at hc
    obtain ⟨h1, h2⟩ := hc
    intro K P ad σ s Q Ex I hB hP h
    refine wpAny_List (soundEs ok es xs h2 K P ad σ s _ _ pos I hB hP (Res.wp_mono (evalEs_len (Res.wp_bind.mp h)) (fun ds hds P1 vs s1 e1 I1 r1 v1' => ?_) fun _ y => y))
    have hl : vs.length ≤ sizeLine := by
      rw [(reps_all.mp r1).length, hds.2, chkEs_len h2]; exact Nat.le_trans h1 (by decide +kernel)
    exact ⟨hl, Post1.new I1 (PostE.shift hds.1 e1 v1') rfl ⟨_, _, rfl⟩ (mkList_rep (addP_self ..) (r1.mono (addP_sub I1.isin.size)) hl)⟩
theorem soundEs (ok : c.Ok) : ∀ (es : List E) (xs : List Expr), chkEs c.hot c.env.scope c.names c.fn c.gn es xs = true → c.SoundEs es xs
  | [], xs, hc => by
    cases isNil_inv hc
    intro K P ad σ s Q Ex pos I hB hP h
    exact args_nil (h P [] s (Ext.refl K P) I rfl (Evo.refl s))
  | e :: r, [], hc => absurd hc Bool.false_ne_true
  | e :: r, x :: t, hc => by
    replace hc := and_inv hc
    intro K P ad σ s Q Ex pos I hB hP h
    refine args_cons (soundE ok e x hc.1 K P ad σ s _ _ I hB hP (Res.wp_mono (Res.wp_bind.mp h) (fun d hd P1 v1 s1 e1 I1 r1 v1' => ?_) fun _ y => y)) (chkE_plain hc.1 _ _)
    refine soundEs ok r t hc.2 K P1 ad σ s1 _ _ pos I1 hB (hP.trans e1.1) (Res.wp_mono (Res.wp_bind.mp hd) (fun ds hds P2 vs s2 e2 I2 r2 v2' => ?_) fun _ y => PostX.shift y e1 v1')
    exact hds P2 (v1 :: vs) s2 (e1.trans e2) I2 ⟨v1, vs, rfl, r1.mono e2.1, r2⟩ (v1'.trans v2')
theorem soundO (ok : c.Ok) : ∀ (o : Option E) (x : Option Expr), chkO c.hot c.env.scope c.names c.fn c.gn o x = true → c.SoundO o x
  | Option.none, x, hc => by
    cases isNone_inv hc
    intro K P ad σ s Q Ex I hB hP h
    exact wpAny_pure (h P _ s (Ext.refl K P) I .none (Evo.refl s))
  | some e, Option.none, hc => absurd hc Bool.false_ne_true
  | some e, some y, hc => by
    intro K P ad σ s Q Ex I hB hP h
    refine soundE ok e y hc K P ad σ s _ _ I hB hP (Res.wp_mono (Res.wp_bind.mp h) (fun d hd P1 v1 s1 e1 I1 r1 v1' => ?_) fun _ y => y)
    cases d <;> first | exact hd.elim | skip
    obtain ⟨t, rfl⟩ := r1
    exact hd P1 _ s1 e1 I1 (.int _ t) v1'
theorem soundT (ok : c.Ok) : ∀ (e : E) (ex : Expr), chkT c.hot c.env.scope c.names c.fn c.gn e ex = true → c.SoundT e ex
  | .not a, ex, hc => by
    replace hc := onUn_inv hc
    obtain ⟨x, pos, rfl, hc⟩ := hc
    intro K P ad σ s Q Ex I hB hP h
    refine wpAny_isTrue_Not (soundT ok a x hc K P ad σ s _ _ I hB hP (Res.wp_mono (Res.wp_bind.mp h) (fun d hd => ?_) fun _ y => y))
    cases d <;> first | exact hd.elim | skip
    obtain ⟨b, e, hb⟩ := hd
    cases e
    exact ⟨_, rfl, hb⟩
  | .and a b, ex, hc => by
    replace hc := onBool2_inv hc
    obtain ⟨x, y, pos, rfl, hc⟩ := hc
    simp only [Bool.and_eq_true] at hc
    intro K P ad σ s Q Ex I hB hP h
    refine wpAny_isTrue_BoolOp (wpAny_allTrue_And_cons (soundT ok a x hc.1 K P ad σ s _ _ I hB hP (Res.wp_mono (Res.wp_bind.mp h) (fun d hd => ?_) fun _ y => y)))
    cases d <;> first | exact hd.elim | skip
    rename_i bb
    refine ⟨bb, rfl, fun P1 s1 e1 I1 v1' => ?_⟩
    cases bb
    · obtain ⟨b, e, hb⟩ := hd
      cases e
      exact hb P1 s1 e1 I1 v1'
    · refine wpAny_allTrue_And_cons (soundT ok b y hc.2 K P1 ad σ s1 _ _ I1 hB (hP.trans e1.1) (Res.wp_mono (Res.wp_bind.mp hd) (fun d hd => ?_) fun _ y => PostX.shift y e1 v1'))
      cases d <;> first | exact hd.elim | skip
      obtain ⟨b, e, hb⟩ := hd
      cases e
      refine ⟨_, rfl, fun P2 s2 e2 I2 v2' => ?_⟩
      have := hb P2 s2 (e1.trans e2) I2 (v1'.trans v2')
      rename_i z
      cases z
      · exact this
      · exact wpAny_allTrue_And_nil this
  | .or3 a b d3, ex, hc => by
    replace hc := onBool3_inv hc
    obtain ⟨x, y, z, pos, rfl, hc⟩ := hc
    simp only [Bool.and_eq_true] at hc
    intro K P ad σ s Q Ex I hB hP h
    refine wpAny_isTrue_BoolOp (wpAny_allTrue_Or_cons (soundT ok a x hc.1.1 K P ad σ s _ _ I hB hP (Res.wp_mono (Res.wp_bind.mp h) (fun d hd => ?_) fun _ y => y)))
    cases d <;> first | exact hd.elim | skip
    rename_i bb
    refine ⟨bb, rfl, fun P1 s1 e1 I1 v1' => ?_⟩
    cases bb
    · refine wpAny_allTrue_Or_cons (soundT ok b y hc.1.2 K P1 ad σ s1 _ _ I1 hB (hP.trans e1.1) (Res.wp_mono (Res.wp_bind.mp hd) (fun d hd => ?_) fun _ y => PostX.shift y e1 v1'))
      cases d <;> first | exact hd.elim | skip
      rename_i b2
      refine ⟨b2, rfl, fun P2 s2 e2 I2 v2' => ?_⟩
      cases b2
      · refine wpAny_allTrue_Or_cons (soundT ok d3 z hc.2 K P2 ad σ s2 _ _ I2 hB ((hP.trans e1.1).trans e2.1) (Res.wp_mono (Res.wp_bind.mp hd) (fun d hd => ?_) fun _ y => PostX.shift y (e1.trans e2) (v1'.trans v2')))
        cases d <;> first | exact hd.elim | skip
        obtain ⟨b, e, hb⟩ := hd
        cases e
        refine ⟨_, rfl, fun P3 s3 e3 I3 v3' => ?_⟩
        have := hb P3 s3 ((e1.trans e2).trans e3) I3 ((v1'.trans v2').trans v3')
        rename_i z
        cases z
        · exact wpAny_allTrue_Or_nil this
        · exact this
      · obtain ⟨b, e, hb⟩ := hd
        cases e
        exact hb P2 s2 (e1.trans e2) I2 (v1'.trans v2')
    · obtain ⟨b, e, hb⟩ := hd
      cases e
      exact hb P1 s1 e1 I1 v1'
  | .cmp op a b, ex, hc => by
    replace hc := onCmp_inv hc
    obtain ⟨l, o, r, pos, rfl, hc⟩ := hc
    simp only [Bool.and_eq_true, beq_iff_eq] at hc
    obtain ⟨⟨rfl, h1⟩, h2⟩ := hc
    intro K P ad σ s Q Ex I hB hP h
    refine wpAny_isTrue_Compare1 (soundE ok a l h1 K P ad σ s _ _ I hB hP (Res.wp_mono (Res.wp_bind.mp h) (fun x hx P1 v1 s1 e1 I1 r1 v1' => ?_) fun _ y => y)) (chkE_marks h2 _)
    refine soundE ok b r h2 K P1 ad σ s1 _ _ I1 hB (hP.trans e1.1) (Res.wp_mono (Res.wp_bind.mp hx) (fun y hy P2 v2 s2 e2 I2 r2 v2' => ?_) fun _ y => PostX.shift y e1 v1')
    refine cmpop_ok ok.un I2 (r1.mono e2.1) r2 (Res.wp_mono hy (fun d hd => ?_) fun _ y => y)
    obtain ⟨b, e, hb⟩ := hd
    subst e
    intro P3 v3 s3 e3 I3 r3 v3'
    cases r3
    exact wpAny_truthy_bool (hb P3 s3 ((e1.trans e2).trans e3) I3 ((v1'.trans v2').trans v3'))
  | .isInt a, ex, hc => by
    replace hc := onIsInt_inv hc
    obtain ⟨f, p1, x, p2, g, p3, pos, rfl, hc⟩ := hc
    simp only [Bool.and_eq_true, beq_iff_eq] at hc
    obtain ⟨⟨⟨⟨rfl, h1⟩, rfl⟩, h2⟩, h3⟩ := hc
    intro K P ad σ s Q Ex I hB hP h
    refine wpAny_isTrue_Compare1 (Call_ (blt_ok ok I hB h1 (v := .type "type") (by simp [bltins]) (PyProof.Rows.callWith_type1 (args_cons (soundE ok a x h3 K P ad σ s _ _ I hB hP (Res.wp_mono (Res.wp_bind.mp h) (fun d hd P1 v1 s1 e1 I1 r1 v1' => ?_) fun _ y => y)) (chkE_plain h3 _ _)) (chkE_plain h3 _ _)))) (by rfl)
    cases d <;> first | exact hd.elim | skip
    obtain ⟨t, rfl⟩ := r1
    obtain ⟨b, e, hb⟩ := hd
    cases e
    refine args_nil ?_
    refine call_type_of (typeIs_int s1 _ t) (by decide) (blt_ok ok I1 hB h2 (v := .type "int") (by simp [bltins]) (wpAny_is_self (by rfl) (wpAny_truthy_bool (hb P1 s1 e1 I1 v1'))))
  | .var i, ex, hc => by
    have hc' : chkE c.hot c.env.scope c.names c.fn c.gn (.var i) ex = true := hc
    obtain ⟨x, pos, rfl, hx, hl⟩ := chkVar_inv hc
    intro K P ad σ s Q Ex I hB hP h
    refine wpAny_isTrue_value (soundE ok (.var i) _ hc' K P ad σ s _ _ I hB hP (Res.wp_mono h (fun d hd P1 v1 s1 e1 I1 r1 v1' => ?_) fun _ y => y))
    obtain ⟨b, e, hb⟩ := hd
    subst e
    cases r1
    exact wpAny_truthy_bool (hb P1 s1 e1 I1 v1')
  | .call f args, ex, hc => by
    have hc' : chkE c.hot c.env.scope c.names c.fn c.gn (.call f args) ex = true := hc
    replace hc := onCallN_inv hc
    obtain ⟨_, _, _, _, rfl, hc⟩ := hc
    intro K P ad σ s Q Ex I hB hP h
    refine wpAny_isTrue_value (soundE ok (.call f args) _ hc' K P ad σ s _ _ I hB hP (Res.wp_mono h (fun d hd P1 v1 s1 e1 I1 r1 v1' => ?_) fun _ y => y))
    obtain ⟨b, e, hb⟩ := hd
    subst e
    cases r1
    exact wpAny_truthy_bool (hb P1 s1 e1 I1 v1')
  | .glob _, _, hc => absurd hc Bool.false_ne_true
  | .none, _, hc => absurd hc Bool.false_ne_true
  | .bool _, _, hc => absurd hc Bool.false_ne_true
  | .int _, _, hc => absurd hc Bool.false_ne_true
  | .str _, _, hc => absurd hc Bool.false_ne_true
  | .bin _ _ _, _, hc => absurd hc Bool.false_ne_true
  | .neg _, _, hc => absurd hc Bool.false_ne_true
  | .ite _ _ _, _, hc => absurd hc Bool.false_ne_true
  | .item _ _, _, hc => absurd hc Bool.false_ne_true
  | .itemV _ _, _, hc => absurd hc Bool.false_ne_true
  | .slice _ _ _, _, hc => absurd hc Bool.false_ne_true
  | .len _, _, hc => absurd hc Bool.false_ne_true
  | .lenV _, _, hc => absurd hc Bool.false_ne_true
  | .max _ _, _, hc => absurd hc Bool.false_ne_true
  | .abs _, _, hc => absurd hc Bool.false_ne_true
  | .strOf _, _, hc => absurd hc Bool.false_ne_true
  | .intOf _, _, hc => absurd hc Bool.false_ne_true
  | .ord _, _, hc => absurd hc Bool.false_ne_true
  | .zfill4 _, _, hc => absurd hc Bool.false_ne_true
  | .joinE _, _, hc => absurd hc Bool.false_ne_true
  | .bot, _, hc => absurd hc Bool.false_ne_true
  | .tupMap _ _, _, hc => absurd hc Bool.false_ne_true
  | .tup _, _, hc => absurd hc Bool.false_ne_true
  | .list _, _, hc => absurd hc Bool.false_ne_true
end
end
end Lim

/-! Soundness of statements. -/
namespace Lim
open PySem PyProof.Rows

/-! monotonicity of the weakest precondition -/
theorem forWp_mono {body : List L → Post → Prop} (hb : ∀ σ Q Q', (∀ fl σ', Q fl σ' → Q' fl σ') → body σ Q → body σ Q') {i : Nat} : ∀ {items : List D} {σ : List L} {Q Q' : Post}, (∀ fl σ', Q fl σ' → Q' fl σ') → forWp body i items σ Q → forWp body i items σ Q'
  | [], _, _, _, h, x => h _ _ x
  | _ :: _, σ, Q, Q', h, x => by
    show body _ _
    refine hb _ _ _ (fun fl σ' y => ?_) x
    cases fl with
    | next => exact forWp_mono hb h y
    | cont => exact forWp_mono hb h y
    | ret d => exact h _ _ y
    | exc c => exact h _ _ y
theorem whileWp_mono {test : List L → Res D} {body : List L → Post → Prop} (hb : ∀ σ Q Q', (∀ fl σ', Q fl σ' → Q' fl σ') → body σ Q → body σ Q') {σ : List L} {Q Q' : Post} (h : ∀ fl σ', Q fl σ' → Q' fl σ') (x : whileWp test body σ Q) : whileWp test body σ Q' := by
  obtain ⟨I, hn, turn⟩ := x
  refine ⟨I, hn, fun n σ hI => ?_⟩
  refine Res.wp_mono (turn n σ hI) (fun d hd => ?_) fun c hc => h _ _ hc
  obtain ⟨b, rfl, hd⟩ := atBool_inv hd
  cases b
  · exact h _ _ hd
  · refine hb _ _ _ (fun fl σ' y => ?_) hd
    cases fl with
    | next => exact y
    | cont => exact y
    | ret d => exact h _ _ y
    | exc c => exact h _ _ y

section
variable {F : Nat → List D → Res D} {G : Nat → Option D}
mutual
theorem wpS_mono : ∀ {st : S} {σ : List L} {Q Q' : Post}, (∀ fl σ', Q fl σ' → Q' fl σ') → wpS F G st σ Q → wpS F G st σ Q'
  | .freeze i, σ, Q, Q', h, x => by
    obtain ⟨d, hl, y⟩ := onFrz_inv x
    show onFrz (σ[i]?) _
    rcases hl with hl | hl <;> rw [hl] <;> exact h _ _ y
  | .assign i e, σ, Q, Q', h, x => Res.wp_mono (r := evalE F G σ e) x (fun _ y => h _ _ y) fun _ y => h _ _ y
  | .assignOwn i e, σ, Q, Q', h, x => Res.wp_mono (r := evalE F G σ e) x (fun _ y => atList_mono y fun _ z => h _ _ z) fun _ y => h _ _ y
  | .aug i op e, σ, Q, Q', h, x => by
    obtain ⟨d, hl, y⟩ := onVal_inv x
    obtain ⟨a, rfl, y⟩ := atInt_inv y
    show onVal (σ[i]?) _
    rw [hl]
    refine Res.wp_mono (r := evalE F G σ e) y (fun d z => ?_) fun _ y => h _ _ y
    obtain ⟨b, rfl, z⟩ := atInt_inv z
    cases op <;> first | exact z.elim | exact h _ _ z
  | .append i e, σ, Q, Q', h, x => by
    obtain ⟨d, hl, y⟩ := onOwn_inv x
    show onOwn (σ[i]?) _
    rw [hl]
    refine Res.wp_mono (r := evalE F G σ e) y (fun d z => ?_) fun _ y => h _ _ y
    obtain ⟨b, hb, z⟩ := isOk_inv z
    show isOk _ _
    rw [hb]; exact h _ _ z
  | .setitem i k e, σ, Q, Q', h, x => by
    obtain ⟨d, hl, y⟩ := onOwn_inv x
    show onOwn (σ[i]?) _
    rw [hl]
    refine Res.wp_mono (r := evalE F G σ e) y (fun d z => ?_) fun _ y => h _ _ y
    refine Res.wp_mono (r := evalE F G σ k) z (fun kd z => ?_) fun _ y => h _ _ y
    obtain ⟨j, rfl, z⟩ := atInt_inv z
    obtain ⟨b, hb, z⟩ := isOk_inv z
    show isOk _ _
    rw [hb]; exact h _ _ z
  | .unpack is e, σ, Q, Q', h, x => by
    refine Res.wp_mono (r := evalE F G σ e) x (fun d z => ?_) fun _ y => h _ _ y
    obtain ⟨j, rfl, z⟩ := atTup_inv z
    obtain ⟨b, hb, z⟩ := isOk_inv z
    show isOk _ _
    rw [hb]; exact h _ _ z
  | .ite c a b, σ, Q, Q', h, x => by
    refine Res.wp_mono (r := evalE F G σ c) x (fun d z => ?_) fun _ y => h _ _ y
    obtain ⟨t, rfl, z⟩ := atBool_inv z
    cases t
    · exact wpSs_mono (sts := b) h z
    · exact wpSs_mono (sts := a) h z
  | .while c b, σ, Q, Q', h, x => whileWp_mono (test := fun σ => evalE F G σ c) (body := fun σ Q => wpSs F G b σ Q) (fun σ Q Q' hQ y => wpSs_mono (sts := b) (σ := σ) hQ y) h x
  | .for i it b, σ, Q, Q', h, x => Res.wp_mono (r := evalIt F G σ it) x (fun items y => forWp_mono (body := fun σ Q => wpSs F G b σ Q) (fun σ Q Q' hQ y => wpSs_mono (sts := b) (σ := σ) hQ y) h y) fun _ y => h _ _ y
  | .ret e, σ, Q, Q', h, x => Res.wp_mono (r := evalE F G σ e) x (fun _ y => h _ _ y) fun _ y => h _ _ y
  | .raise c, σ, Q, Q', h, x => h _ _ x
  | .expr e, σ, Q, Q', h, x => Res.wp_mono (r := evalE F G σ e) x (fun _ y => h _ _ y) fun _ y => h _ _ y
  | .try b c hd, σ, Q, Q', h, x => by
    refine wpSs_mono (sts := b) (fun fl σ' y => ?_) x
    cases fl with
    | next => exact h _ _ y
    | cont => exact h _ _ y
    | ret d => exact h _ _ y
    | exc e => exact ⟨y.1, wpSs_mono (sts := hd) h y.2⟩
  | .cont, σ, Q, Q', h, x => h _ _ x
  | .assignMap i f k, σ, Q, Q', h, x => by
    obtain ⟨d, hl, y⟩ := onOwn_inv x
    show onOwn (σ[k]?) _
    rw [hl]
    exact Res.wp_mono y (fun _ y => atList_mono y fun _ z => h _ _ z) fun _ y => h _ _ y
theorem wpSs_mono : ∀ {sts : List S} {σ : List L} {Q Q' : Post}, (∀ fl σ', Q fl σ' → Q' fl σ') → wpSs F G sts σ Q → wpSs F G sts σ Q'
  | [], σ, Q, Q', h, x => h _ _ x
  | s :: r, σ, Q, Q', h, x => by
    refine wpS_mono (st := s) (fun fl σ' y => ?_) x
    cases fl with
    | next => exact wpSs_mono (sts := r) h y
    | cont => exact h _ _ y
    | ret d => exact h _ _ y
    | exc e => exact h _ _ y
end
end

/-! the check of statements -/
noncomputable def excName : Exc → Str
  | .value => "ValueError"
  | .zero => "ZeroDivisionError"

section
variable (hot : Bool) (sc : Scope) (names fn gn : List Str)

noncomputable def chkItC : It → Expr → Bool
  | .range1 a, e => onCall1 e fun f x => f == ("range" : Str) && isGl sc f && chkE hot sc names fn gn a x
  | .range3 a b st, e => onRange3 e fun f x y => f == ("range" : Str) && isGl sc f && st == -1 && chkE hot sc names fn gn a x && chkE hot sc names fn gn b y
  | .seq e, x => chkE hot sc names fn gn e x

noncomputable def chkIt (it : It) (e : Expr) : Bool := !hot && chkItC hot sc names fn gn it e

noncomputable def chkVars : List Nat → List Expr → Bool
  | [], xs => xs.isEmpty
  | i :: is, xs => match xs with | x :: r => chkVar sc names i x && chkVars is r | [] => false

noncomputable def isListE (e : E) : Bool := match e with | .list _ => true | _ => false
noncomputable def isMul (op : Bop) : Bool := match op with | .mul => true | _ => false
noncomputable def ownShape (e : E) : Bool := match e with
  | .list _ => true
  | .bin op a _ => isMul op && isListE a
  | _ => false
theorem ownShape_inv {e : E} (h : ownShape e = true) : (∃ es, e = .list es) ∨ ∃ es b, e = .bin .mul (.list es) b := by
  cases e <;> first | exact absurd h Bool.false_ne_true | exact .inl ⟨_, rfl⟩ | skip
  rename_i op a b
  obtain ⟨h1, h2⟩ := and_inv h
  cases op <;> first | exact absurd h1 Bool.false_ne_true | skip
  cases a <;> first | exact absurd h2 Bool.false_ne_true | exact .inr ⟨_, _, rfl⟩

noncomputable def notTup (e : Expr) : Bool := !(onTuple e fun _ _ _ => true)

/-- the compiler's exchange of the stores of  y = [..]  takes place -/
noncomputable def swapB (t v : Expr) : Bool := onName t fun y py => onListComp v fun _ _ scope pos => py.line == pos.line && !(scope.names.any fun z => z.1 == y && (z.2 == .local || z.2 == .cell))

/-- an except's suite: plain assigns and returns, under a handled exception -/
noncomputable def chkH : S → Stmt → Bool
  | .assign i e, x => onAssign1 x fun t v => chkVar sc names i t && chkE true sc names [] gn e v
  | .ret e, x => onRet x fun v => chkE true sc names [] gn e v
  | _, _ => false
noncomputable def chkHs : List S → List Stmt → Bool
  | [], xs => xs.isEmpty
  | s :: r, xs => match xs with | x :: t => chkH sc names gn s x && chkHs r t | [] => false

mutual
noncomputable def chkS : S → Stmt → Bool
  | .freeze _, _ => false
  | .assign i e, x => onAssign1 x fun t v => chkVar sc names i t && chkE hot sc names fn gn e v
  | .assignOwn i e, x => onAssign1 x fun t v => chkVar sc names i t && ownShape e && chkE hot sc names fn gn e v
  | .aug i op e, x => atAugAssign x fun t o v _ => chkVar sc names i t && opOf op == o && chkE hot sc names fn gn e v
  | .append i e, x => onAppend x fun n a pa y pc => a == ("append" : Str) && pa.endLine == pc.line && chkVar sc names i n && chkE hot sc names fn gn e y
  | .setitem i k e, x => onSetitem x fun n sl v => chkVar sc names i n && chkE hot sc names fn gn k sl && chkE hot sc names fn gn e v
  | .unpack is e, x => onUnpack x fun ts v => !hot && chkVars sc names is ts && notTup v && chkE hot sc names fn gn e v
  | .ite c a b, x => atIf x fun t y z _ => chkT hot sc names fn gn c t && chkSs a y && chkSs b z
  | .while c b, x => onWhile0 x fun t y => chkT hot sc names fn gn c t && chkSs b y
  | .for i it b, x => onFor0 x fun t ix y => chkVar sc names i t && chkIt hot sc names fn gn it ix && chkSs b y
  | .ret e, x => onRet x fun v => chkE hot sc names fn gn e v
  | .raise c, x => onRaise1 x fun n m => !hot && n == excName c && isGl sc n && decide (m.cps.size ≤ 1000)
  | .expr e, x => atExpr x fun v _ => chkE hot sc names fn gn e v
  | .try b c h, x => onTry1 x fun bx n hx => !hot && n == excName c && isGl sc n && chkSs b bx && !hx.isEmpty && chkHs sc names gn h hx
  | .cont, x => atContinue x fun _ => true
  | .assignMap i f k, x => onAssign1 x fun t v => !hot && i != k && chkVar sc names i t && swapB t v && onLComp v fun g x iter scope => fn[f]? == some g && compScB scope x g && chkVar sc names k iter
noncomputable def chkSs : List S → List Stmt → Bool
  | [], xs => xs.isEmpty
  | s :: r, xs => match s with
    | .freeze _ => chkSs r xs
    | s => match xs with | x :: t => chkS s x && chkSs r t | [] => false
end
end
end Lim

/-! Soundness of statements, the proof. -/
namespace Lim
open PySem PyProof.Rows

namespace Cx
variable (c : Cx)
noncomputable def PostS (K P : Part) (s : Shared) (Q : Flow → Shared → Prop) (Ex : Value → Shared → Prop) : Post := fun fl σ' => ∀ P' ad' s', Ext K P P' → c.Inv K P' ad' σ' s' → Evo s s' → match fl with
  | .next => Q .next s'
  | .cont => Q .cont s'
  | .ret d => ∀ v, Rep P' d v → Q (.ret v) s'
  | .exc x => ∀ v, c.Fly K P' ad' σ' x v s' → Ex v s'

noncomputable def SoundSs (sts : List S) (xs : List Stmt) : Prop := ∀ K P ad σ s Q Ex, c.Inv K P ad σ s → c.Based K → Sub c.P0 P → PassesOwn (model c.prog c.w) c.A c.env Ex →
  wpSs c.F c.G sts σ (c.PostS K P s Q Ex) → wpAny (model c.prog c.w) c.A (execs xs c.env) Q Ex s
noncomputable def SoundS (st : S) (x : Stmt) : Prop := ∀ K P ad σ s Q Ex, c.Inv K P ad σ s → c.Based K → Sub c.P0 P → PassesOwn (model c.prog c.w) c.A c.env Ex →
  wpS c.F c.G st σ (c.PostS K P s Q Ex) → wpAny (model c.prog c.w) c.A (exec x c.env) Q Ex s
noncomputable def SoundIt (it : It) (x : Expr) : Prop := ∀ K P ad σ s (Q : Value → Shared → Prop) Ex, c.Inv K P ad σ s → c.Based K → Sub c.P0 P →
  (evalIt c.F c.G σ it).wp (fun ds => ∀ P' s' o, Ext K P P' → c.Inv K P' ad σ s' → Evo s s' → o.isFreed = false → IterAt c P' (s'.heap.push o) s'.heap.objs.size ds → Q (.ref s'.heap.objs.size) { s' with heap := s'.heap.push o }) (c.PostX K P ad σ s Ex) →
  wpAny (model c.prog c.w) c.A (eval x c.env) (fun v s₁ => wpAny (model c.prog c.w) c.A (pyIter v) Q Ex s₁) Ex s

/-- what is asked of the exceptions' word, and of the statements that raise and catch -/
structure OkS : Prop where
  ok : c.Ok
  fly : ∀ K K' P ad σ x v s, Sub K K' → c.Fly K' P ad σ x v s → c.Fly K P ad σ x v s
  raise : ∀ x st, chkS c.hot c.env.scope c.names c.fn c.gn (.raise x) st = true → c.SoundS (.raise x) st
  tryOk : ∀ b x h st, chkS c.hot c.env.scope c.names c.fn c.gn (.try b x h) st = true → (∀ bx, chkSs c.hot c.env.scope c.names c.fn c.gn b bx = true → c.SoundSs b bx) → c.SoundS (.try b x h) st
end Cx

section
variable {c : Cx} {K P P1 : Part} {ad : Nat → Addr} {σ : List L} {s s1 : Shared} {Q : Flow → Shared → Prop} {Ex : Value → Shared → Prop}

theorem PostS.shift {fl : Fl} (h : c.PostS K P s Q Ex fl σ) (he : Ext K P P1) (hv : Evo s s1) : c.PostS K P1 s1 Q Ex fl σ := fun P' ad' s' e I ev => h P' ad' s' (he.trans e) I (hv.trans ev)

theorem notClass (ok : c.Ok) : (c.env.scope.kind == .class || (c.env.scope.kind == .module && c.env.locals != c.env.globals)) = false := by rw [ok.kind]; rfl

theorem store_ok (ok : c.Ok) (I : c.Inv K P ad σ s) {i : Nat} {x : Str} {d : D} {v : Value} {Q : Unit → Shared → Prop} (hx : c.names[i]? = some x) (hl : isLoc c.env.scope x = true) (hr : Rep P d v)
    (h : ∀ s', c.Inv K P ad (σ.set i (.val d)) s' → Evo s s' → Q () s') : wpAny (model c.prog c.w) c.A (storeName c.env x v) Q Ex s := by
  simp only [isLoc, Bool.and_eq_true, beq_iff_eq, Bool.not_eq_true'] at hl
  obtain ⟨m, hn, _⟩ := id I.locs
  refine wpAny_storeName_local hl.1 hn (fun h' hn' hb => ?_) (notClass ok)
  exact h _ (I.store ok.nd hx hr (fun m' hm' => by have : m' = m := funext fun y => hm'.agree hn y; rw [this]; exact hn') hb) ⟨_, _, rfl⟩

theorem storeOwn_ok (ok : c.Ok) (I : c.Inv K P ad σ s) {i : Nat} {x : Str} {d : D} {a : Addr} {h₁ : Heap} {tk : Nat} {Q : Unit → Shared → Prop} (hx : c.names[i]? = some x) (hl : isLoc c.env.scope x = true)
    (up : ∀ b o, b ≠ c.env.locals → s.heap.get? b = some o → h₁.get? b = some o) (upF : ∀ m, s.heap.Ns c.env.locals m → h₁.Ns c.env.locals m) (hnew : s.heap.get? a = Option.none) (hat : OwnAt P h₁ a d)
    (h : ∀ ad' s', c.Inv K P ad' (σ.set i (.own d)) s' → Evo s s' → Q () s') : wpAny (model c.prog c.w) c.A (storeName c.env x (.ref a)) Q Ex { s with heap := h₁, toks := tk } := by
  simp only [isLoc, Bool.and_eq_true, beq_iff_eq, Bool.not_eq_true'] at hl
  obtain ⟨m, hn, _⟩ := id I.locs
  refine wpAny_storeName_local (s := { s with heap := h₁, toks := tk }) hl.1 (upF m hn) (fun h' hn' hb => ?_) (notClass ok)
  exact h _ _ (I.storeOwn ok.nd hx up upF hnew hat (fun m' hm' => by have : m' = m := funext fun y => hm'.agree (upF m hn) y; rw [this]; exact hn') hb) ⟨_, _, rfl⟩

theorem range_iter {P : Part} {h : Heap} {a b st : Int} {n : Nat} (hh : c.A.handled = none) (hn : Builtin.Range.rangeSize a b st = (n : Int)) :
    IterAt c P (h.push { cls := .type "range_iterator", data := .fields #[rawInt a, rawInt (Builtin.Range.rangeSize a b st), rawInt st] }) h.objs.size (rangeD a n st) := by
  refine ⟨_, n, _, _, Walks.range hh h.objs.size a st n, ?_, by simp [rangeD], fun b hb => .inl (by simpa using hb), ?_, fun i h st => ⟨_, st⟩⟩
  · show IsRangeIter _ _ _ _ _
    rw [hn]
    have e1 : a + ((0 : Nat) : Int) * st = a := by simp
    have e2 : (n : Int) - ((0 : Nat) : Int) = n := by simp
    rw [e1, e2]
    exact Heap.get?_push_size _ rfl
  · rintro i v d hd ⟨t, rfl⟩
    simp only [rangeD, List.getElem?_map] at hd
    obtain ⟨k, hk, rfl⟩ := Option.map_eq_some_iff.mp hd
    have : k = i := by
      have := List.getElem?_eq_some_iff.mp hk
      obtain ⟨h1, h2⟩ := this
      simpa using h2.symm
    subst this
    exact ⟨t, rfl⟩

theorem rsize3 (m n : Int) : Builtin.Range.rangeSize m n (-1) = (((m - n).toNat : Nat) : Int) := by
  unfold Builtin.Range.rangeSize
  rw [if_neg (by decide)]
  have e : -(-1 : Int) = 1 := rfl
  rw [e, Int.ediv_one]
  split <;> lia
theorem small3 {m n : Int} (hm : m.natAbs ≤ LIM) (hn : n.natAbs ≤ LIM) : Builtin.Range.small m n (-1) = true := by
  have h1 : -1000000 ≤ m ∧ m ≤ 1000000 := by unfold LIM at hm; lia
  have h2 : -1000000 ≤ n ∧ n ≤ 1000000 := by unfold LIM at hn; lia
  clear hm hn
  unfold Builtin.Range.small
  rw [rsize3]
  simp only [Builtin.Range.rangeFitsLong, Bool.and_eq_true, Bool.or_eq_true, decide_eq_true_eq, beq_iff_eq, show ¬ ((-1 : Int) > 0) by decide, if_false]
  lia
theorem soundIt (ok : c.Ok) : ∀ (it : It) (x : Expr), chkIt c.hot c.env.scope c.names c.fn c.gn it x = true → c.SoundIt it x := by
  have hL : LIM = 1000000 := rfl
  intro it x hc
  simp only [chkIt, Bool.and_eq_true, Bool.not_eq_true'] at hc
  have hA := ok.hA hc.1
  replace hc := hc.2
  cases it with
  | range1 a =>
    replace hc := onCall1_inv hc
    obtain ⟨f, p1, y, pos, rfl, hc⟩ := hc
    simp only [Bool.and_eq_true, beq_iff_eq] at hc
    obtain ⟨⟨rfl, h1⟩, h2⟩ := hc
    intro K P ad σ s Q Ex I hB hP h
    refine Call_ (blt_ok ok I hB h1 (v := .type "range") (by simp [bltins]) (PyProof.Rows.callWith_type1 (args_cons (soundE ok a y h2 K P ad σ s _ _ I hB hP (Res.wp_mono (Res.wp_bind.mp h) (fun d hd P1 v1 s1 e1 I1 r1 v1' => ?_) fun _ y => y)) (chkE_plain h2 _ _)) (chkE_plain h2 _ _)))
    cases d <;> first | exact hd.elim | skip
    rename_i n
    obtain ⟨t, rfl⟩ := r1
    obtain ⟨hn, hd⟩ := wp_ite hd
    refine args_nil ?_
    refine call_range_1 (wpAny_pyIter_range (IsRange.new ..) (small_one (by lia) (by lia) (by lia) (by lia)) ?_)
    have hs : Builtin.Range.rangeSize 0 n 1 = ((n.toNat : Nat) : Int) := by rw [rangeSize_one]; split <;> lia
    exact hd P1 _ _ e1 (I1.grow (tk := s1.toks + 1 + 1) fun _ _ e => Heap.get?_push_of_some _ e) (v1'.trans ⟨_, _, rfl⟩) rfl (range_iter hA hs)
  | range3 a b st =>
    replace hc := onRange3_inv hc
    obtain ⟨f, p1, y, z, k, pk, pu, pos, rfl, hc⟩ := hc
    simp only [Bool.and_eq_true, beq_iff_eq] at hc
    obtain ⟨⟨⟨⟨rfl, h1⟩, rfl⟩, h2⟩, h3⟩ := hc
    intro K P ad σ s Q Ex I hB hP h
    have hpl : (backTo pos (starEach [z, .UnaryOp .USub (.Constant (.int 1) k pk) pu] c.env)).any (·.1) = false := by rw [chkE_plain h3]; rfl
    refine Call_ (blt_ok ok I hB h1 (v := .type "range") (by simp [bltins]) (PyProof.Rows.callWith_type1 (args_cons (soundE ok a y h2 K P ad σ s _ _ I hB hP (Res.wp_mono (Res.wp_bind.mp h) (fun d hd P1 v1 s1 e1 I1 r1 v1' => ?_) fun _ y => y)) (chkE_plain h2 _ _)) (chkE_plain h2 _ _) hpl))
    cases d <;> first | exact hd.elim | skip
    rename_i m
    obtain ⟨t, rfl⟩ := r1
    refine args_cons (soundE ok b z h3 K P1 ad σ s1 _ _ I1 hB (hP.trans e1.1) (Res.wp_mono (Res.wp_bind.mp hd) (fun d' hd' P2 v2 s2 e2 I2 r2 v2' => ?_) fun _ y => PostX.shift y e1 v1')) (chkE_plain h3 _ _)
    cases d' <;> first | exact hd'.elim | skip
    rename_i n
    obtain ⟨t', rfl⟩ := r2
    obtain ⟨hn, hd'⟩ := wp_ite hd'
    refine args_cons (wpAny_UnaryOp (wpAny_Constant_int (PySem.P.neg_int ?_))) rfl
    refine args_nil ?_
    have hs := rsize3 m n
    refine call_range_3 (by decide) (wpAny_pyIter_range (IsRange.new ..) ?_ ?_) (.inl (PyProof.noPylong_of_log2 (by decide +kernel)))
    · exact small3 hn.2.1 hn.2.2
    · exact hd' P2 _ _ (e1.trans e2) (I2.grow fun _ _ e => Heap.get?_push_of_some _ e) ((v1'.trans v2').trans ⟨_, _, rfl⟩) rfl (range_iter hA hs)
  | seq e =>
    intro K P ad σ s Q Ex I hB hP h
    refine soundE ok e x hc K P ad σ s _ _ I hB hP (Res.wp_mono (Res.wp_bind.mp h) (fun d hd P1 v1 s1 e1 I1 r1 v1' => ?_) fun _ y => y)
    cases hs : seqD d with
    | stuck => rw [hs] at hd; exact hd.elim
    | exc y => exact absurd hs seqD_noexc
    | ok ds => rw [hs] at hd; exact iter_ok hA I1 r1 hs fun o hfr hit => hd P1 s1 o e1 I1 v1' hfr hit
end
end Lim

/-! Soundness of statements, the induction. -/
namespace Lim
open PySem PyProof.Rows

section
variable {c : Cx}

theorem notInter (ok : c.Ok) : interactive c.env = false := by unfold interactive; rw [ok.kind]; rfl

theorem noFold {it : It} {x : Expr} (h : chkIt c.hot c.env.scope c.names c.fn c.gn it x = true) (v : Value) : foldedSetIterable x c.env v = pure v := by
  simp only [chkIt, Bool.and_eq_true] at h
  replace h := h.2
  cases it
  case range1 => obtain ⟨_, _, _, _, rfl, _⟩ := onCall1_inv h; rfl
  case range3 => obtain ⟨_, _, _, _, _, _, _, _, rfl, _⟩ := onRange3_inv h; rfl
  case seq e =>
    replace h := chkE_head h
    clear e
    cases x <;> first | rfl | exact absurd h Bool.false_ne_true

theorem asI_some {d : D} {i : Int} (h : asI d = some i) : d = .int i := by
  cases d <;> first | (cases h; done) | (cases h; rfl)
theorem appendD_ok {P : Part} {h h' : Heap} {a : Addr} {x d x' : D} {v : Value} (ha : appendD x d = some x') (hat : OwnAt P h a x) (hr : Rep P d v)
    (hp : ∀ vs n, h.get? a = some (listO vs n) → ∃ n', h'.get? a = some (listO (vs ++ [v]) n')) : OwnAt P h' a x' := by
  have hS : LIM + 1 ≤ sizeLine := by decide +kernel
  cases x <;> first | exact hat.elim | skip
  case ilist ns =>
    obtain ⟨vs, n, h1, h2, h3⟩ := hat
    obtain ⟨n', h1'⟩ := hp vs n h1
    obtain ⟨o, ho⟩ : ∃ o, asI d = o := ⟨_, rfl⟩
    have ha' : appI ns d o = some x' := by rw [← ho]; exact ha
    cases o with
    | some i =>
      cases asI_some ho
      by_cases hl : ns.length ≤ LIM
      · cases (if_pos hl).symm.trans ha'
        refine ⟨vs ++ [v], n', h1', h2.append ⟨v, [], rfl, hr, rfl⟩, ?_⟩
        rw [List.length_append, h2.length, List.length_singleton]; exact Nat.le_trans (Nat.succ_le_succ hl) hS
      · cases (if_neg hl).symm.trans ha'
    | none =>
      by_cases hl : ns.isEmpty = true
      · cases (if_pos hl).symm.trans ha'
        cases List.isEmpty_iff.mp hl
        cases h2
        exact ⟨[v], n', h1', ⟨v, [], rfl, hr, rfl⟩, Nat.le_trans (Nat.succ_le_succ (Nat.zero_le _)) hS⟩
      · cases (if_neg hl).symm.trans ha'
  case list xs =>
    obtain ⟨vs, n, h1, h2, h3⟩ := hat
    obtain ⟨n', h1'⟩ := hp vs n h1
    by_cases hl : xs.length ≤ LIM
    · cases (if_pos hl).symm.trans ha
      refine ⟨vs ++ [v], n', h1', h2.append ⟨v, [], rfl, hr, rfl⟩, ?_⟩
      rw [List.length_append, h2.length, List.length_singleton]; exact Nat.le_trans (Nat.succ_le_succ hl) hS
    · cases (if_neg hl).symm.trans ha

theorem setD_inv {x d x' : D} {j : Int} (h : setD x j d = some x') : ∃ ns q, x = .ilist ns ∧ d = .int q ∧ (0 ≤ j ∧ j < ns.length) ∧ x' = .ilist (ns.set j.toNat q) := by
  cases x <;> first | (cases h; done) | skip
  cases d <;> first | (cases h; done) | skip
  rename_i ns q
  by_cases hj : 0 ≤ j ∧ j < (ns.length : Int)
  · cases (if_pos hj).symm.trans h; exact ⟨ns, q, rfl, rfl, hj, rfl⟩
  · cases (if_neg hj).symm.trans h
theorem OwnAt.list {P : Part} {h : Heap} {a : Addr} {d : D} (x : OwnAt P h a d) : ∃ vs n, h.get? a = some (listO vs n) := by
  cases d <;> first | exact x.elim | (obtain ⟨vs, n, h1, _⟩ := x; exact ⟨vs, n, h1⟩)

theorem appendD_size {P : Part} {h : Heap} {a : Addr} {x d x' : D} {vs : List Value} {n : Nat} (ha : appendD x d = some x') (hat : OwnAt P h a x) (hg : h.get? a = some (listO vs n)) : vs.toArray.size ≤ sizeLine := by
  cases x <;> first | exact hat.elim | skip
  all_goals
    obtain ⟨ws, m, h1, h2, h3⟩ := hat
    rw [hg] at h1
    have : vs.toArray = ws.toArray := by
      have := Option.some.inj h1
      simp only [listO, Obj.mk.injEq, Data.seq.injEq] at this
      exact this.2.2.1.1
    rw [this, List.size_toArray]
    exact h3

theorem isList_eq {h : Heap} {a : Addr} {vs ws : List Value} {n m : Nat} (h1 : h.get? a = some (listO vs n)) (h2 : h.get? a = some (listO ws m)) : vs = ws ∧ n = m := by
  rw [h1] at h2
  have := Option.some.inj h2
  simp only [listO, Obj.mk.injEq, Data.seq.injEq] at this
  exact ⟨by simpa using this.2.2.1.1, this.2.2.1.2⟩
end

section
variable {c : Cx}
theorem chkVars_each {env : Env} : ∀ {is : List Nat} {ts : List Expr}, chkVars c.env.scope c.names is ts = true → assignEach ts env = ts.map fun t => (false, assign t env)
  | [], ts, h => by cases isNil_inv h; rfl
  | i :: is, [], h => absurd h Bool.false_ne_true
  | i :: is, t :: r, h => by
    replace h := and_inv h
    obtain ⟨x, px, rfl, _⟩ := chkVar_inv h.1
    show (false, assign (.Name x px) env) :: assignEach r env = _
    rw [chkVars_each h.2]
    rfl
theorem chkVars_len : ∀ {is : List Nat} {ts : List Expr}, chkVars c.env.scope c.names is ts = true → is.length = ts.length
  | [], ts, h => by cases isNil_inv h; rfl
  | i :: is, [], h => absurd h Bool.false_ne_true
  | i :: is, t :: r, h => congrArg Nat.succ (chkVars_len (and_inv h).2)
theorem unpackSet_len : ∀ {is : List Nat} {ds : List D} {σ σ' : List L}, unpackSet is ds σ = some σ' → is.length = ds.length
  | [], [], _, _, _ => rfl
  | i :: is, d :: ds, σ, σ', h => by simp only [unpackSet] at h; simp [unpackSet_len h]
  | [], _ :: _, _, _, h => by simp [unpackSet] at h
  | _ :: _, [], _, _, h => by simp [unpackSet] at h
theorem unpack_ok (ok : c.Ok) {K P : Part} {ad : Nat → Addr} {Q : Unit → Shared → Prop} {Ex : Value → Shared → Prop} : ∀ {is : List Nat} {ts : List Expr} {ds : List D} {vs : List Value} {σ σ' : List L} {s : Shared}, chkVars c.env.scope c.names is ts = true → Reps P ds vs → unpackSet is ds σ = some σ' → c.Inv K P ad σ s →
    (∀ s', c.Inv K P ad σ' s' → Evo s s' → Q () s') → wpAny (model c.prog c.w) c.A (assignInOrder (ts.map fun t => assign t c.env) vs) Q Ex s
  | [], ts, [], vs, σ, σ', s, hc, hr, hu, I, h => by
    simp only [chkVars, List.isEmpty_iff] at hc
    subst hc
    simp only [unpackSet, Option.some.injEq] at hu
    subst hu
    exact assignInOrder_nil (h s I (Evo.refl s))
  | i :: is, [], _, _, _, _, _, hc, _, _, _, _ => absurd hc Bool.false_ne_true
  | i :: is, t :: r, d :: ds, vs, σ, σ', s, hc, hr, hu, I, h => by
    replace hc := and_inv hc
    obtain ⟨x, px, rfl, hx, hl⟩ := chkVar_inv hc.1
    obtain ⟨v, vs', rfl, r1, r2⟩ := hr
    simp only [unpackSet] at hu
    refine assignInOrder_cons (wpAny_assign_Name (store_ok ok I hx hl r1 fun s1 I1 ev => ?_))
    exact unpack_ok ok hc.2 r2 hu I1 fun s' I' ev' => h s' I' (ev.trans ev')
  | [], _, _ :: _, _, _, _, _, _, _, hu, _, _ => by simp [unpackSet] at hu
  | _ :: _, _ :: _, [], _, _, _, _, _, _, hu, _, _ => by simp [unpackSet] at hu
theorem notTup_sw {v : Expr} (h : notTup v = true) (ts : List Expr) (k : Nat) (p : Pos) (env : Env) : swappedStores [.Tuple ts k p] v env = pure none := by
  cases v <;> first | rfl | exact absurd h Bool.false_ne_true

theorem PostS.kdrop {K P : Part} {s : Shared} {Q : Flow → Shared → Prop} {Ex : Value → Shared → Prop} {fl : Fl} {σ : List L} (o : c.OkS) {it : Addr} {ob : Obj} (hk : K it = Option.none) {P1 : Part} {s1 : Shared} (hp : ∀ P', Ext (addP K it ob) P1 P' → P' it = Option.none)
    (e1 : Ext K P P1) (v1 : Evo s s1) (hfl : fl ≠ .next ∧ fl ≠ .cont) {Q' : Flow → Shared → Prop} (hQ : ∀ v s', Q (.ret v) s' → Q' (.ret v) s') (h : c.PostS K P s Q Ex fl σ) : c.PostS (addP K it ob) P1 s1 Q' Ex fl σ := by
  intro P' ad' s' e I ev
  have J : c.Inv K P' ad' σ s' := Inv.kdrop (h' := s'.heap) (tk := s'.toks) I hk (hp P' e) fun _ _ _ x => x
  have hh := h P' ad' s' (e1.trans (e.kdrop hk)) J (v1.trans ev)
  cases fl with
  | next => exact absurd rfl hfl.1
  | cont => exact absurd rfl hfl.2
  | ret d => exact fun v r => hQ v s' (hh v r)
  | exc x => exact fun v f => hh v (o.fly _ _ _ _ _ _ _ _ (addP_sub hk) f)
end

section
variable {c : Cx}
theorem own_items {P : Part} {h : Heap} {a : Addr} {x : D} {ds : List D} (hat : OwnAt P h a x) (e : seqD x = .ok ds) : ∃ vs n, h.get? a = some (listO vs n) ∧ AllV (Rep P) ds vs := by
  cases x <;> first | exact hat.elim | skip
  case ilist ns =>
    cases e
    obtain ⟨vs, n, h1, h2, h3⟩ := hat
    refine ⟨vs, n, h1, ?_⟩
    clear h1 h3
    induction ns generalizing vs with
    | nil => exact h2
    | cons m r ih =>
      obtain ⟨w, ws, rfl, z1, z2⟩ := h2
      exact ⟨w, ws, rfl, z1, ih _ z2⟩
  case list xs =>
    cases e
    obtain ⟨vs, n, h1, h2, _⟩ := hat
    exact ⟨vs, n, h1, h2⟩
theorem swapB_ok {y : Str} {py : Pos} {v : Expr} (ok : c.Ok) (hl : isLoc c.env.scope y = true) (h : swapB (.Name y py) v = true) (n : Nat) : swapsWith v (some (.Name y py)) n c.env = pure true := by
  obtain ⟨y', py', q, h⟩ := onName_inv h
  cases q
  obtain ⟨el, gs, sc, p, rfl, h⟩ := onListComp_inv h
  obtain ⟨h1, h2⟩ := and_inv h
  obtain ⟨h3, _⟩ := and_inv hl
  have hb : c.env.blockKind = .function := by unfold Env.blockKind; rw [ok.kind]; rfl
  show (pure (c.env.blockKind == .function && c.env.kindOf y == some .local && py.line == p.line && !(sc.names.any fun z => z.1 == y && (z.2 == .local || z.2 == .cell))) : Sem Bool) = pure true
  rw [hb, show (c.env.kindOf y == some .local) = true from h3, h1, h2]
  rfl
theorem assignMap_ok (o : c.OkS) (i f k : Nat) (x : Stmt) (hc : chkS c.hot c.env.scope c.names c.fn c.gn (.assignMap i f k) x = true) : c.SoundS (.assignMap i f k) x := by
  obtain ⟨t, v, spos, rfl, hc⟩ := onAssign1_inv hc
  obtain ⟨hc, h3⟩ := and_inv hc
  obtain ⟨hc, h2⟩ := and_inv hc
  obtain ⟨hc, h1⟩ := and_inv hc
  obtain ⟨hh, hik⟩ := and_inv hc
  obtain ⟨y, py, rfl, hx, hl⟩ := chkVar_inv h1
  have hsw := swapB_ok o.ok hl h2 spos.line
  obtain ⟨g, pg, x, p2, pc, px, iter, scope, pos, rfl, h4⟩ := onLComp_inv h3
  obtain ⟨h5, ha⟩ := and_inv h4
  obtain ⟨hf', hsc⟩ := and_inv h5
  have hf : c.fn[f]? = some g := eq_of_beq hf'
  obtain ⟨z, pz, rfl, hz, hlz⟩ := chkVar_inv ha
  have hA := o.ok.hA (by simpa using hh)
  have hik' : i ≠ k := by simpa using hik
  have sc := compSc_of hsc
  intro K P ad σ s Q Ex I hB hP hE h
  obtain ⟨x0, hk, h⟩ := onOwn_inv h
  obtain ⟨ds, xs, e1, hlen, e2, hq⟩ := mapD_wp h
  rw [exec_Assign_Name_used _ _ _ _ hsw]
  refine wpAny_bind (wpAny_standAt (wpAny_bind ?_))
  show wpAny _ c.A (do let _ ← comprehension (.ListComp (.Call (.Name g pg) [.Name x p2] [] pc) [⟨.Name x px, .Name z pz, [], 0⟩] scope pos) scope c.env _ (newList []) false (eval (.Name z pz) c.env) (some (assign (.Name y py) c.env))) _ _ s
  refine wpAny_bind (wpAny_mono (wpAny_comprehension_free (use := some (assign (.Name y py) c.env)) (Q := fun _ s' => Q .next s') rfl (fun _ => rfl) (closureFor_none sc.free) sc.kind sc.names
    (own_ok o.ok I hz hlz hk fun hat => ?_)) (fun _ s' hq => wpAny_pure (wpAny_pure hq)) fun _ _ e => e)
  obtain ⟨vs, n, hg, hvs⟩ := own_items hat e1
  have hkl : s.heap.IsList (ad k) vs.toArray := ⟨_, hg, rfl, n, rfl⟩
  obtain ⟨mm, _, hll⟩ := I.locs
  have O := hll k z _ hz hk
  have hne : ad k ≠ s.heap.objs.size := Nat.ne_of_lt (Heap.lt_size hg)
  refine wpAny_pyIter_list hkl ?_
  have I1 := Inv.pinK I hk hg
  have hnew : s.heap.get? s.heap.objs.size = Option.none := Heap.get?_none_of_le (Nat.le_refl _)
  obtain ⟨J, pI, kI, _⟩ := I1.kadd (tk := s.toks) (it := s.heap.objs.size) (o := { cls := .type "list_iterator", data := .fields #[.ref (ad k), .int 0 0] }) (h' := s.heap.push { cls := .type "list_iterator", data := .fields #[.ref (ad k), .int 0 0] }) hnew (fun _ _ e => Heap.get?_push_of_some _ e) (Heap.get?_push_size _ rfl)
  refine comp_walk o.ok sc hf J kI pI (Based.sub hB (addP_sub O.2.2.1)) hP ⟨_, _, _, _, Walks.list hA _ (ad k) hne vs.toArray, ⟨⟨_, Heap.get?_push_size _ rfl, rfl, rfl⟩, hkl.push _⟩, by simp [hvs.length], ?_, ?_, fun i h st => let ⟨o, ho, _⟩ := st.1; ⟨o, ho⟩⟩ e2 hlen ?_
  · intro b hb
    rcases List.mem_cons.mp hb with rfl | hb
    · exact .inl rfl
    · rw [List.mem_singleton.mp hb]; exact .inr (.inr ⟨Based.off hB O.2.2.1, _, addP_self ..⟩)
  · intro i v d hd hv
    obtain ⟨v', h1, h2⟩ := hvs.get hd
    have : vs[i]? = some v := by simpa using hv
    rw [h1] at this; cases this
    exact h2
  intro D C oC P' ws n' m s' eP I' ev hws hwl kD pD kC pC nDC hnC
  show wpAny _ _ (assign (.Name y py) c.env (.ref D)) _ _ _
  obtain ⟨mF, hnF, _⟩ := id I'.locs
  have hl' := hl
  simp only [isLoc, Bool.and_eq_true, beq_iff_eq, Bool.not_eq_true'] at hl'
  have FC : c.env.locals ≠ C := fun q => by have := I'.kF; rw [q, addP_self] at this; cases this
  refine wpAny_assign_Name (wpAny_storeName_local hl'.1 hnF (fun h2 hn2 hs2 => ?_) (notClass o.ok))
  refine ⟨m, hnC.sameBut hs2 (Ne.symm FC), fun h3 hs3 => ?_⟩
  have hst : ∀ m', s'.heap.Ns c.env.locals m' → h2.Ns c.env.locals (fun z => if z = y then some (.ref D) else m' z) := fun m' hm' => by have : m' = mF := funext fun y => hm'.agree hnF y; rw [this]; exact hn2
  have fin : ∀ d, (∀ h : Heap, h.get? D = some (listO ws n') → OwnAt P' h D d) → c.PostS K P s Q Ex .next (σ.set i (.own d)) → Q .next { s' with heap := h3, toks := s'.toks + 1 } := fun d hown hp =>
    hp P' _ _ (Ext.kdrop O.2.2.1 eP) (Inv.unpin I hik' hk hg I' eP kD pD kC pC nDC (fun a => Based.off hB) o.ok.nd hx hown hs2 hst hs3) (Evo.trans ⟨_, _, rfl⟩ (ev.trans ⟨_, _, rfl⟩))
  unfold mkList at hq
  split at hq
  · rename_i ns en
    exact fin (.ilist ns) (fun h e => ⟨ws, n', e, allInts_ok en (reps_all.mpr hws), hwl⟩) hq
  · exact fin (.list xs) (fun h e => ⟨ws, n', e, hws, hwl⟩) hq
end

section
variable {c : Cx}
mutual
theorem soundS (o : c.OkS) : ∀ (st : S) (x : Stmt), chkS c.hot c.env.scope c.names c.fn c.gn st x = true → c.SoundS st x
  | .freeze i, x, hc => absurd hc Bool.false_ne_true
  | .assign i e, x, hc => by
    replace hc := onAssign1_inv hc
    obtain ⟨t, v, pos, rfl, hc⟩ := hc
    simp only [Bool.and_eq_true] at hc
    obtain ⟨h1, h2⟩ := hc
    obtain ⟨y, py, rfl, hx, hl⟩ := chkVar_inv h1
    intro K P ad σ s Q Ex I hB hP hE h
    refine wpAny_Assign_Name (soundE o.ok e v h2 K P ad σ s _ _ I hB hP (Res.wp_mono h (fun d hd P1 v1 s1 e1 I1 r1 v1' => ?_) fun y hy P' v s' e1 I1 fl ev => hy P' ad s' e1 I1 ev v fl)) (chkE_swaps h2 _ _ _)
    exact store_ok o.ok I1 hx hl r1 fun s' I' ev => hd P1 ad s' e1 I' (v1'.trans ev)
  | .assignOwn i e, x, hc => by
    replace hc := onAssign1_inv hc
    obtain ⟨t, v, pos, rfl, hc⟩ := hc
    simp only [Bool.and_eq_true] at hc
    obtain ⟨⟨h1, h3⟩, h2⟩ := hc
    obtain ⟨y, py, rfl, hx, hl⟩ := chkVar_inv h1
    intro K P ad σ s Q Ex I hB hP hE h
    refine wpAny_Assign_Name ?_ (chkE_swaps h2 _ _ _)
    have hX : ∀ y, c.PostS K P s Q Ex (.exc y) σ → c.PostX K P ad σ s Ex y := fun y hy P' v s' e1 I1 fl ev => hy P' ad s' e1 I1 ev v fl
    rcases ownShape_inv h3 with ⟨es, rfl⟩ | ⟨es, b, rfl⟩
    · 
      replace h2 := onList_inv h2
      obtain ⟨xs, pos', rfl, h2⟩ := h2
      simp only [Bool.and_eq_true, decide_eq_true_eq] at h2
      refine wpAny_List (soundEs o.ok es xs h2.2 K P ad σ s _ _ pos' I hB hP (Res.wp_mono (evalEs_len (Res.wp_bind.mp h)) (fun ds hds P1 vs s1 e1 I1 r1 v1' => ?_) hX))
      have hlen : vs.length ≤ sizeLine := by
        rw [(reps_all.mp r1).length, hds.2, chkEs_len h2.2]; exact Nat.le_trans h2.1 (by decide +kernel)
      refine ⟨hlen, ?_⟩
      have up : ∀ b ob, b ≠ c.env.locals → s1.heap.get? b = some ob → (s1.heap.push { cls := .type "list", data := .seq vs.toArray }).get? b = some ob := fun _ _ _ e => Heap.get?_push_of_some _ e
      have upF : ∀ m, s1.heap.Ns c.env.locals m → (s1.heap.push { cls := .type "list", data := .seq vs.toArray }).Ns c.env.locals m := fun m hm => hm.push _
      have hnew : s1.heap.get? s1.heap.objs.size = Option.none := Heap.get?_none_of_le (Nat.le_refl _)
      have hd := hds.1
      unfold mkList at hd
      split at hd
      · rename_i ns en
        exact storeOwn_ok (tk := s1.toks) o.ok I1 hx hl up upF hnew (d := .ilist ns) ⟨vs, 0, Heap.get?_push_size _ rfl, allInts_ok en r1, hlen⟩ fun ad' s' I' ev => hd P1 ad' s' e1 I' (v1'.trans ev)
      · exact storeOwn_ok (tk := s1.toks) o.ok I1 hx hl up upF hnew (d := .list ds) ⟨vs, 0, Heap.get?_push_size _ rfl, reps_all.mp r1, hlen⟩ fun ad' s' I' ev => hd P1 ad' s' e1 I' (v1'.trans ev)
    · 
      replace h2 := onBinOp_inv h2
      obtain ⟨l, o', r, pos', rfl, h2⟩ := h2
      simp only [Bool.and_eq_true, beq_iff_eq] at h2
      obtain ⟨⟨rfl, q1⟩, q2⟩ := h2
      have q1' : chkE c.hot c.env.scope c.names c.fn c.gn (.list es) l = true := q1
      refine wpAny_BinOp (soundE o.ok (.list es) l q1' K P ad σ s _ _ I hB hP (Res.wp_mono (Res.wp_bind.mp h) (fun x hx' P1 v1 s1 e1 I1 r1 v1' => ?_) hX))
      refine soundE o.ok b r q2 K P1 ad σ s1 _ _ I1 hB (hP.trans e1.1) (Res.wp_mono (Res.wp_bind.mp hx') (fun y hy P2 v2 s2 e2 I2 r2 v2' => ?_) fun y hy => PostX.shift (hX y hy) e1 v1')
      cases y <;> first | exact hy.elim | skip
      cases x <;> first | exact hy.elim | (exact (wp_ite hy).2.elim) | skip
      · rename_i k ns
        obtain ⟨⟨g0, g1, g2⟩, hy⟩ := wp_ite hy
        refine mul_raw I2 (r1.mono e2.1) r2 g0 g1 g2 fun h' vs up upF ho hv' hlv => ?_
        exact storeOwn_ok (tk := s2.toks) o.ok I2 hx hl up upF (Heap.get?_none_of_le (Nat.le_refl _)) (d := .ilist _) ⟨vs, 0, ho, hv', hlv⟩ fun ad' s' I' ev => hy P2 ad' s' (e1.trans e2) I' ((v1'.trans v2').trans ev)
  | .aug i op e, x, hc => by
    replace hc := atAugAssign_inv hc
    obtain ⟨t, o', v, pos, rfl, hc⟩ := hc
    simp only [Bool.and_eq_true, beq_iff_eq] at hc
    obtain ⟨⟨h1, rfl⟩, h2⟩ := hc
    obtain ⟨y, py, rfl, hx, hl⟩ := chkVar_inv h1
    intro K P ad σ s Q Ex I hB hP hE h
    obtain ⟨x0, ha, h⟩ := onVal_inv h
    obtain ⟨a, rfl, h⟩ := atInt_inv h
    · obtain ⟨m, w0, hn, hw, t0, rfl⟩ := I.valAt hx ha
      have hl' := hl
      simp only [isLoc, Bool.and_eq_true, beq_iff_eq, Bool.not_eq_true'] at hl'
      refine wpAny_AugAssign_Name (wpAny_loadName_local o.ok.kind hl'.1 hn hw ?_)
      refine soundE o.ok e v h2 K P ad σ s _ _ I hB hP (Res.wp_mono h (fun d hd P1 v1 s1 e1 I1 r1 v1' => ?_) fun y hy P' v s' e1 I1 fl ev => hy P' ad s' e1 I1 ev v fl)
      obtain ⟨b, rfl, hd⟩ := atInt_inv hd
      cases op <;> first | exact hd.elim | skip
      · obtain ⟨t1, rfl⟩ := r1
        exact PySem.P.iadd_int (store_ok o.ok (d := .int _) (I1.toks _) hx hl ⟨_, rfl⟩ fun s' I' ev => hd P1 ad s' e1 I' ((v1'.trans ⟨_, _, rfl⟩).trans ev))
      · obtain ⟨t1, rfl⟩ := r1
        exact PySem.P.isub_int (store_ok o.ok (d := .int _) (I1.toks _) hx hl ⟨_, rfl⟩ fun s' I' ev => hd P1 ad s' e1 I' ((v1'.trans ⟨_, _, rfl⟩).trans ev))
  | .append i e, x, hc => by
    replace hc := onAppend_inv hc
    obtain ⟨n, a, pa, y, pc, pos, rfl, hc⟩ := hc
    simp only [Bool.and_eq_true, beq_iff_eq] at hc
    obtain ⟨⟨⟨rfl, hpos⟩, h1⟩, h2⟩ := hc
    obtain ⟨z, pz, rfl, hx, hl⟩ := chkVar_inv h1
    intro K P ad σ s Q Ex I hB hP hE h
    obtain ⟨x0, ha, h⟩ := onOwn_inv h
    · refine wpAny_Expr_any ?_ (notInter o.ok) rfl
      refine MethodCall_ (own_ok o.ok I hx hl ha fun hat => ?_) (method1 rfl (chkE_plain h2 _ _) hpos)
      obtain ⟨vs0, n0, hg0⟩ := hat.list
      refine Calls.getMethod_list_append hg0 rfl rfl ?_
      refine callWith_method1 (args_cons (soundE o.ok e y h2 K P ad σ s _ _ I hB hP (Res.wp_mono h (fun d hd P1 v1 s1 e1 I1 r1 v1' => ?_) fun y hy P' v s' e1 I1 fl ev => hy P' ad s' e1 I1 ev v fl)) (chkE_plain h2 _ _)) (chkE_plain h2 _ _)
      refine args_nil ?_
      obtain ⟨_, _, _, hat1, upd⟩ := I1.ownAt hx ha
      obtain ⟨vs1, n1, hg1⟩ := hat1.list
      obtain ⟨x', ea, hd⟩ := isOk_inv hd
      · refine wpAny_list_append_plain (items := vs1.toArray) ⟨n1, hg1⟩ (fun h' hp' hb' => ?_) (appendD_size ea hat1 hg1)
        refine hd P1 ad _ e1 (upd h' s1.toks x' hb' (appendD_ok ea hat1 r1 fun vs n hg => ?_)) (v1'.trans ⟨_, _, rfl⟩)
        obtain ⟨n', hg'⟩ := hp'
        obtain ⟨rfl, rfl⟩ := isList_eq hg1 hg
        exact ⟨n', by rw [hg']; simp [listO]⟩
  | .setitem i k e, x, hc => by
    replace hc := onSetitem_inv hc
    obtain ⟨n, sl, ps, v, pos, rfl, hc⟩ := hc
    simp only [Bool.and_eq_true] at hc
    obtain ⟨⟨h1, h3⟩, h2⟩ := hc
    obtain ⟨z, pz, rfl, hx, hl⟩ := chkVar_inv h1
    intro K P ad σ s Q Ex I hB hP hE h
    obtain ⟨x0, ha, h⟩ := onOwn_inv h
    refine wpAny_Assign_Subscript (soundE o.ok e v h2 K P ad σ s _ _ I hB hP (Res.wp_mono h (fun d hd P1 v1 s1 e1 I1 r1 v1' => ?_) fun y hy P' v s' e1 I1 fl ev => hy P' ad s' e1 I1 ev v fl)) (chkE_swaps h2 _ _ _)
    refine own_ok o.ok I1 hx hl ha fun hat => ?_
    refine soundE o.ok k sl h3 K P1 ad σ s1 _ _ I1 hB (hP.trans e1.1) (Res.wp_mono hd (fun kd hk P2 v2 s2 e2 I2 r2 v2' => ?_) fun y hy P' v s' e2 I2 fl ev => hy P' ad s' (e1.trans e2) I2 (v1'.trans ev) v fl)
    obtain ⟨j, rfl, hk⟩ := atInt_inv hk
    obtain ⟨x', es, hk⟩ := isOk_inv hk
    obtain ⟨ns, q, rfl, rfl, hj, rfl⟩ := setD_inv es
    obtain ⟨t, rfl⟩ := r2
    obtain ⟨_, _, _, hat2, upd⟩ := I2.ownAt hx ha
    obtain ⟨vs, n, g1, g2, g3⟩ := hat2
    have hS : sizeLine = 16777216 := by decide +kernel
    have hlen := g2.length
    refine PySem.W.ki_setAt (n := n) (items := vs.toArray) g1 hj.1 (by omega) (by simp only [List.size_toArray]; omega) ?_
    refine hk P2 ad _ (e1.trans e2) (upd _ s2.toks (.ilist (ns.set j.toNat q)) (Heap.SameBut.update ..) ?_) ((v1'.trans v2').trans ⟨_, _, rfl⟩)
    refine ⟨vs.set j.toNat v1, n, ?_, g2.set (r1.mono e2.1), by rw [List.length_set]; exact g3⟩
    rw [Heap.get?_update_self _ g1 (by rfl)]
    simp [listO, Obj.mapSeq]
  | .unpack is e, x, hc => by
    replace hc := onUnpack_inv hc
    obtain ⟨ts, k, tp, v, pos, rfl, hc⟩ := hc
    simp only [Bool.and_eq_true] at hc
    obtain ⟨⟨⟨hh, h1⟩, h3⟩, h2⟩ := hc
    intro K P ad σ s Q Ex I hB hP hE h
    refine Assign_Tuple (soundE o.ok e v h2 K P ad σ s _ _ I hB hP (Res.wp_mono h (fun d hd P1 v1 s1 e1 I1 r1 v1' => ?_) fun y hy P' v s' e1 I1 fl ev => hy P' ad s' e1 I1 ev v fl)) (by unfold swapsWithSole; exact chkE_swaps h2 _ _ _) (notTup_sw h3 _ _ _ _)
    obtain ⟨ds, rfl, hd⟩ := atTup_inv hd
    obtain ⟨σ', hu, hd⟩ := isOk_inv hd
    · obtain ⟨a, vs, n, rfl, p1, p2, p3⟩ := r1
      have hlen : vs.length = ts.length := by rw [(reps_all.mp p2).length, ← unpackSet_len hu, chkVars_len h1]
      refine assign_Tuple_tuple (items := vs.toArray) (o.ok.hA (by simpa using hh)) (I1.isin.tup p1) (by rw [chkVars_each h1]; simp [hlen]) (by rw [chkVars_each h1]; simp) fun h' hb => ?_
      rw [chkVars_each h1]
      simp only [List.map_map]
      have I2 : c.Inv K P1 ad σ { s1 with heap := h' } := I1.grow (tk := s1.toks) fun b ob e => hb b ob (Nat.ne_of_lt (Heap.lt_size e)) e
      refine unpack_ok o.ok h1 p2 hu I2 fun s' I' ev => hd P1 ad s' e1 I' (v1'.trans ((show Evo s1 { s1 with heap := h' } from ⟨_, _, rfl⟩).trans ev))
  | .ite t a b, x, hc => by
    replace hc := atIf_inv hc
    obtain ⟨tt, y, z, pos, rfl, hc⟩ := hc
    simp only [Bool.and_eq_true] at hc
    obtain ⟨⟨h1, h2⟩, h3⟩ := hc
    intro K P ad σ s Q Ex I hB hP hE h
    refine wpAny_If (soundT o.ok t tt h1 K P ad σ s _ _ I hB hP (Res.wp_mono h (fun d hd => ?_) fun y hy P' v s' e1 I1 fl ev => hy P' ad s' e1 I1 ev v fl))
    obtain ⟨bb, rfl, hd⟩ := atBool_inv hd
    refine ⟨bb, rfl, fun P1 s1 e1 I1 v1' => ?_⟩
    cases bb
    · exact soundSs o b z h3 K P1 ad σ s1 _ _ I1 hB (hP.trans e1.1) hE (wpSs_mono (fun fl σ' y => PostS.shift y e1 v1') hd)
    · exact soundSs o a y h2 K P1 ad σ s1 _ _ I1 hB (hP.trans e1.1) hE (wpSs_mono (fun fl σ' y => PostS.shift y e1 v1') hd)
  | .while t b, x, hc => by
    replace hc := onWhile0_inv hc
    obtain ⟨tt, y, pos, rfl, hc⟩ := hc
    simp only [Bool.and_eq_true] at hc
    obtain ⟨h1, h2⟩ := hc
    intro K P ad σ s Q Ex I hB hP hE h
    obtain ⟨J, ⟨n, hn⟩, turn⟩ := h
    refine wpAny_While (codeAny_whileLoop (fun n s' => ∃ P' ad' σ', J n σ' ∧ Ext K P P' ∧ c.Inv K P' ad' σ' s' ∧ Evo s s') ?_ n ⟨P, ad, σ, hn, Ext.refl K P, I, Evo.refl s⟩)
    rintro n s1 ⟨P1, ad1, σ1, hJ, e1, I1, v1'⟩
    refine wpAny_passesOwn hE (soundT o.ok t tt h1 K P1 ad1 σ1 s1 _ _ I1 hB (hP.trans e1.1) (Res.wp_mono (turn n σ1 hJ) (fun d hd => ?_) fun y hy P' v s' e2 I2 fl ev => hy P' ad1 s' (e1.trans e2) I2 (v1'.trans ev) v fl))
    obtain ⟨bb, rfl, hd⟩ := atBool_inv hd
    refine ⟨bb, rfl, fun P2 s2 e2 I2 v2' => ?_⟩
    cases bb
    · exact wpAny_execs_nil (hd P2 ad1 s2 (e1.trans e2) I2 (v1'.trans v2'))
    · refine wpAny_passesOwn hE (soundSs o b y h2 K P2 ad1 σ1 s2 _ _ I2 hB ((hP.trans e1.1).trans e2.1) hE (wpSs_mono (fun fl σ' z => ?_) hd))
      intro P3 ad3 s3 e3 I3 v3'
      cases fl with
      | next => obtain ⟨m, hm, hJ'⟩ := z; exact ⟨m, hm, P3, ad3, σ', hJ', (e1.trans e2).trans e3, I3, (v1'.trans v2').trans v3'⟩
      | cont => obtain ⟨m, hm, hJ'⟩ := z; exact ⟨m, hm, P3, ad3, σ', hJ', (e1.trans e2).trans e3, I3, (v1'.trans v2').trans v3'⟩
      | ret d => exact z P3 ad3 s3 ((e1.trans e2).trans e3) I3 ((v1'.trans v2').trans v3')
      | exc y => exact z P3 ad3 s3 ((e1.trans e2).trans e3) I3 ((v1'.trans v2').trans v3')
  | .for i it b, x, hc => by
    replace hc := onFor0_inv hc
    obtain ⟨t, ix, y, pos, rfl, hc⟩ := hc
    simp only [Bool.and_eq_true] at hc
    obtain ⟨⟨h1, h3⟩, h2⟩ := hc
    obtain ⟨z, pz, rfl, hx, hl⟩ := chkVar_inv h1
    intro K P ad σ s Q Ex I hB hP hE h
    refine wpAny_For (soundIt o.ok it ix h3 K P ad σ s _ _ I hB hP (Res.wp_mono h (fun ds hd P1 s1 ob e1 I1 v1' hfr hit => ?_) fun y hy P' v s' e1 I1 fl ev => hy P' ad s' e1 I1 ev v fl)) (noFold h3)
    obtain ⟨fp, n, Pw, St, W, st0, hn, hfp, hrep, hat⟩ := hit
    generalize hI : s1.heap.objs.size = J at *
    have hnew : s1.heap.get? J = Option.none := by rw [← hI]; exact Heap.get?_none_of_le (Nat.le_refl _)
    have hget : (s1.heap.push ob).get? J = some ob := by rw [← hI]; exact Heap.get?_push_size _ hfr
    obtain ⟨I2, pJ, kJ, _⟩ := I1.kadd (tk := s1.toks) (o := ob) (h' := s1.heap.push ob) hnew (fun _ _ e => Heap.get?_push_of_some _ e) hget
    refine codeAny_forLoop (fun k s' => ∃ P' ad' σ' ob' j, j ≤ n ∧ j + k = n + 1 ∧ Ext (addP K J ob') P1 P' ∧ c.Inv (addP K J ob') P' ad' σ' s' ∧ Evo s1 s' ∧ St j s'.heap ∧
      forWp (fun σ Q => wpSs c.F c.G b σ Q) i (ds.drop j) σ' (c.PostS K P s Q Ex)) ?_ (n + 1) ⟨P1, ad, σ, ob, 0, by omega, by omega, Ext.refl _ _, I2, ⟨_, _, rfl⟩, st0, by simpa using hd⟩
    rintro k s2 ⟨P2, ad2, σ2, ob2, j, hjn, hjk, e2, I2', v2', stj, hw⟩
    have p2J : ∀ {ob' P'}, Ext (addP K J ob') P2 P' → P' J = Option.none := fun {ob' P'} e => by
      have a1 := e.2 J (by rw [addP_self]; exact fun x => nomatch x)
      have a2 := e2.2 J (by rw [addP_self]; exact fun x => nomatch x)
      rw [a1, a2, pJ]
    have p2J0 : P2 J = Option.none := by
      have a2 := e2.2 J (by rw [addP_self]; exact fun x => nomatch x)
      rw [a2, pJ]
    by_cases hj : j < n
    · refine wpAny_passesOwn hE (W.item j s2 _ _ hj stj fun v h' tk hPw st' hk' => ?_)
      have hdj : ∃ d, ds[j]? = some d := ⟨ds[j]'(by omega), by simp [show j < ds.length by omega]⟩
      obtain ⟨d, hd'⟩ := hdj
      have hdr : ds.drop j = d :: ds.drop (j + 1) := by
        obtain ⟨hlt, rfl⟩ := List.getElem?_eq_some_iff.mp hd'
        exact List.drop_eq_getElem_cons hlt
      rw [hdr] at hw
      obtain ⟨ob3, ho3⟩ := hat _ _ st'
      have hB' : c.Based (addP K J ob3) := ⟨fun a ob' e => addP_sub kJ a ob' (hB.1 a ob' e), fun a ha => by
        obtain ⟨oo, es, nn, q1, q2⟩ := hB.2 a ha
        exact ⟨oo, es, nn, addP_sub kJ a oo q1, q2⟩⟩
      have hJfr : J ∉ c.fr := fun q => by
        obtain ⟨oo, es, nn, q1, q2⟩ := hB.2 J q
        rw [kJ] at q1; cases q1
      have I3 : c.Inv (addP K J ob3) P2 ad2 σ2 { s2 with heap := h', toks := tk } := I2'.kswap p2J0 (fun bb xx hb e => hk' bb xx (by simpa using hb) e) ho3
      have frm : ∀ {P' ad' σ'} {s' s'' : Shared}, Sub P1 P' → c.Inv (addP K J ob3) P' ad' σ' s'' → (s'.heap.get? J = some ob3) → (∀ b x, P1 b = some x → s'.heap.get? b = some x) → St (j + 1) s'.heap → St (j + 1) s''.heap ∧ s''.heap.get? J = some ob3 ∧ (∀ b x, P1 b = some x → s''.heap.get? b = some x) := by
        intro P' ad' σ' s' s'' hsub I' hg hp1 st
        have hJ2 : s''.heap.get? J = some ob3 := by
          obtain ⟨o', g1, g2, _⟩ := I'.keep J ob3 (addP_self ..)
          rw [g1, g2 hJfr]
        have hp2 : ∀ b x, P1 b = some x → s''.heap.get? b = some x := fun b x e => (I'.isin b x (hsub b x e)).1
        refine ⟨W.frame _ _ _ st fun bb hb xx e => ?_, hJ2, hp2⟩
        rcases hfp bb hb with rfl | hq
        · rw [hg] at e; cases e; exact hJ2
        · cases hpb : P1 bb with
          | none => exact absurd hpb hq
          | some y0 =>
            have := hp1 bb y0 hpb
            rw [this] at e; cases e
            exact hp2 bb _ hpb
      refine wpAny_assign_Name (store_ok o.ok I3 hx hl ((hrep j v d hd' hPw).mono e2.1) fun s3 I4 v3' => ?_)
      have F3 := frm (s' := { s2 with heap := h', toks := tk }) e2.1 I4 ho3 (fun b x e => (I3.isin b x (e2.1 b x e)).1) st'
      refine wpAny_passesOwn hE (soundSs o b y h2 (addP K J ob3) P2 ad2 _ s3 _ _ I4 hB' ((hP.trans e1.1).trans e2.1) hE (wpSs_mono (fun fl σ' z => ?_) hw))
      have e12 : Ext K P P2 := e1.trans (e2.kdrop kJ)
      have v13 : Evo s s3 := ((v1'.trans v2').trans ⟨_, _, rfl⟩).trans v3'
      have step : forWp (fun σ Q => wpSs c.F c.G b σ Q) i (ds.drop (j + 1)) σ' (c.PostS K P s Q Ex) → ∀ P' ad' s', Ext (addP K J ob3) P2 P' → c.Inv (addP K J ob3) P' ad' σ' s' → Evo s3 s' →
          ∃ m, m < k ∧ ∃ P' ad' σ' ob' j, j ≤ n ∧ j + m = n + 1 ∧ Ext (addP K J ob') P1 P' ∧ c.Inv (addP K J ob') P' ad' σ' s' ∧ Evo s1 s' ∧ St j s'.heap ∧ forWp (fun σ Q => wpSs c.F c.G b σ Q) i (ds.drop j) σ' (c.PostS K P s Q Ex) := by
        intro hz P' ad' s' e' I' v'
        exact ⟨k - 1, by omega, P', ad', σ', ob3, j + 1, by omega, by omega, e2.kany.trans e', I', ((v2'.trans ⟨_, _, rfl⟩).trans v3').trans v', (frm (e2.1.trans e'.1) I' F3.2.1 F3.2.2 F3.1).1, hz⟩
      cases fl with
      | next => exact fun P' ad' s' e' I' v' => step z P' ad' s' e' I' v'
      | cont => exact fun P' ad' s' e' I' v' => step z P' ad' s' e' I' v'
      | ret d => exact PostS.kdrop o kJ (fun P' e => p2J e) e12 v13 ⟨(by intro x; cases x), (by intro x; cases x)⟩ (fun v s' q => q) z
      | exc x => exact PostS.kdrop o kJ (fun P' e => p2J e) e12 v13 ⟨(by intro x; cases x), (by intro x; cases x)⟩ (fun v s' q => q) z
    · have hjn' : j = n := by omega
      subst hjn'
      refine wpAny_passesOwn hE (W.done s2 _ _ stj fun h' tk hk' => wpAny_execs_nil ?_)
      rw [List.drop_of_length_le (by omega)] at hw
      exact hw P2 ad2 _ (e1.trans (e2.kdrop kJ)) (Inv.kdrop I2' kJ p2J0 fun bb xx hb e => hk' bb xx (by simpa using hb) e) ((v1'.trans v2').trans ⟨_, _, rfl⟩)
  | .ret e, x, hc => by
    replace hc := onRet_inv hc
    obtain ⟨v, pos, rfl, hc⟩ := hc
    intro K P ad σ s Q Ex I hB hP hE h
    exact wpAny_Return_some (soundE o.ok e v hc K P ad σ s _ _ I hB hP (Res.wp_mono h (fun d hd P1 v1 s1 e1 I1 r1 v1' => hd P1 ad s1 e1 I1 v1' v1 r1) fun y hy P' v s' e1 I1 fl ev => hy P' ad s' e1 I1 ev v fl))
  | .raise y, x, hc => o.raise y x hc
  | .expr e, x, hc => by
    replace hc := atExpr_inv hc
    obtain ⟨v, pos, rfl, hc⟩ := hc
    intro K P ad σ s Q Ex I hB hP hE h
    exact wpAny_Expr_any (soundE o.ok e v hc K P ad σ s _ _ I hB hP (Res.wp_mono h (fun d hd P1 v1 s1 e1 I1 r1 v1' => hd P1 ad s1 e1 I1 v1') fun y hy P' v s' e1 I1 fl ev => hy P' ad s' e1 I1 ev v fl)) (notInter o.ok) (chkE_swaps hc _ _ _)
  | .try b y hd, x, hc => o.tryOk b y hd x hc fun bx hb => soundSs o b bx hb
  | .cont, x, hc => by
    replace hc := atContinue_inv hc
    obtain ⟨_, rfl, hc⟩ := hc
    intro K P ad σ s Q Ex I hB hP hE h
    exact wpAny_Continue (h P ad s (Ext.refl K P) I (Evo.refl s))
  | .assignMap i f k, x, hc => assignMap_ok o i f k x hc
theorem soundSs (o : c.OkS) : ∀ (sts : List S) (xs : List Stmt), chkSs c.hot c.env.scope c.names c.fn c.gn sts xs = true → c.SoundSs sts xs
  | [], xs, hc => by
    cases List.isEmpty_iff.mp hc
    intro K P ad σ s Q Ex I hB hP hE h
    exact wpAny_execs_nil (h P ad s (Ext.refl K P) I (Evo.refl s))
  | st :: r, xs, hc => by
    intro K P ad σ s Q Ex I hB hP hE h
    by_cases hf : ∃ i, st = .freeze i
    · obtain ⟨i, rfl⟩ := hf
      obtain ⟨d, hl | hl, h⟩ := onFrz_inv h
      · obtain ⟨P1, e1, I1⟩ := I.freeze hl
        exact soundSs o r xs hc K P1 ad _ s Q Ex I1 hB (hP.trans e1.1) hE (wpSs_mono (fun fl σ' y => PostS.shift y e1 (Evo.refl s)) h)
      · have e : σ.set i (.val d) = σ := by
          apply List.ext_getElem?
          intro j
          rw [List.getElem?_set]
          by_cases q : i = j
          · subst q
            rw [if_pos rfl, hl]
            rw [if_pos (List.getElem?_eq_some_iff.mp hl).1]
          · rw [if_neg q]
        rw [e] at h
        exact soundSs o r xs hc K P ad σ s Q Ex I hB hP hE h
    · have hc' : ∃ x t, xs = x :: t ∧ chkS c.hot c.env.scope c.names c.fn c.gn st x = true ∧ chkSs c.hot c.env.scope c.names c.fn c.gn r t = true := by
        cases xs with
        | nil => cases st <;> first | (exfalso; exact hf ⟨_, rfl⟩) | exact absurd hc Bool.false_ne_true
        | cons x t => exact ⟨x, t, rfl, by cases st <;> first | (exfalso; exact hf ⟨_, rfl⟩) | exact and_inv hc⟩
      obtain ⟨x, t, rfl, h1, h2⟩ := hc'
      refine wpAny_execs_cons (soundS o st x h1 K P ad σ s _ _ I hB hP hE (wpS_mono (fun fl σ' y => ?_) h))
      intro P1 ad1 s1 e1 I1 v1'
      cases fl with
      | next => exact soundSs o r t h2 K P1 ad1 σ' s1 Q Ex I1 hB (hP.trans e1.1) hE (wpSs_mono (fun fl σ' y => PostS.shift y e1 v1') y)
      | cont => exact y P1 ad1 s1 e1 I1 v1'
      | ret d => exact y P1 ad1 s1 e1 I1 v1'
      | exc z => exact y P1 ad1 s1 e1 I1 v1'
end
end
end Lim

/-! Exceptions; functions: a table of mini texts, pure contracts, calls. -/
namespace Lim
open PySem PyProof.Rows

noncomputable def excS : Exc → String
  | .value => "ValueError"
  | .zero => "ZeroDivisionError"

/-- what the frame's facts speak of -/
noncomputable def Mine (K P : Part) (ad : Nat → Addr) (σ : List L) (a : Addr) (o : Obj) : Prop := K a = some o ∨ P a = some o ∨ ∃ (i : Nat) (d : D), σ[i]? = some (L.own d) ∧ ad i = a

/-- an exception flies in the frame env, upon outer; base: all that stood, but the frames of the stack -/
noncomputable def FlyX (env : Env) (outer : List Env) (fr : List Addr) (K P : Part) (ad : Nat → Addr) (σ : List L) (x : Exc) (v : Value) (s : Shared) : Prop :=
  ∃ e base a0, v = .ref e ∧ (∀ a o, s.heap.get? a = some o → a ≠ env.locals → a ∉ fr → Mine K P ad σ a o → base.get? a = some o) ∧ base.StaysIn s.heap ∧ base.get? e = none ∧ s.heap.FunFrames base (env :: outer) ∧
    (s.heap.TracedW base e (.type (excS x)) a0 ∨ ∃ oe vs, s.heap.get? e = some oe ∧ oe.cls = .type (excS x) ∧ oe.data = .fields vs ∧ vs[0]? = some a0 ∧ vs[1]? = some .none)

theorem FlyX.mono {env : Env} {outer : List Env} {fr : List Addr} {K K' P : Part} {ad : Nat → Addr} {σ : List L} {x : Exc} {v : Value} {s : Shared} (hs : Sub K K') (h : FlyX env outer fr K' P ad σ x v s) : FlyX env outer fr K P ad σ x v s := by
  obtain ⟨e, base, a0, h1, h2, h3⟩ := h
  exact ⟨e, base, a0, h1, fun a o q q1 q2 m => h2 a o q q1 q2 (m.imp (hs a o) id), h3⟩

/-- the frames of the stack -/
structure OkX (c : Cx) : Prop where
  frames : c.A.frames = some (c.env :: c.outer)
  own : c.env.frame = some c.env.locals
  outs : ∀ e ∈ c.outer, e.scope.kind ≠ .module ∧ ∃ L ∈ c.fr, e.frame = some L

theorem funFrames_of {h base : Heap} {fr : List Addr} : ∀ {outer : List Env}, (∀ e ∈ outer, e.scope.kind ≠ .module ∧ ∃ L ∈ fr, e.frame = some L) → (∀ a ∈ fr, base.get? a = none ∧ ∃ o, h.get? a = some o ∧ ∀ vs, o.data ≠ .fields vs) → h.FunFrames base outer
  | [], _, _ => trivial
  | e :: r, ho, hf => by
    obtain ⟨h1, L, hL, hfr⟩ := ho e (.head _)
    obtain ⟨h2, o, h3, h4⟩ := hf L hL
    exact ⟨h1, ⟨L, o, hfr, h2, h3, h4⟩, funFrames_of (fun e he => ho e (.tail _ he)) hf⟩

theorem callFacts (x : Exc) : ∃ n i, ExcCallFacts (excS x) n i := by
  cases x
  · exact ⟨_, _, F.excCall_ValueError⟩
  · exact ⟨_, _, F.excCall_ZeroDivisionError⟩
theorem raiseFacts (x : Exc) : ExcRaiseFacts (excS x) := by
  cases x
  · exact F.excRaise_ValueError
  · exact F.excRaise_ZeroDivisionError
theorem excBlt (x : Exc) : (excName x, Value.type (excS x)) ∈ bltins := by cases x <;> simp [bltins, excName, excS]
theorem excSub (x : Exc) : isSubtype (.type (excS x)) (.type (excS x)) = pure true := by cases x <;> (unfold excS; rw [isSubtype_type]; kernel_rfl)
theorem excNotTuple (x : Exc) : isSubtype (.type ((Manifest.find? (excS x)).elim "type" fun x => x.metatype)) (.type "tuple") = pure false := by cases x <;> (unfold excS; rw [isSubtype_type]; kernel_rfl)

section
variable {c : Cx}
theorem raise_ok (ok : c.Ok) (okx : OkX c) (hfly : ∀ K P ad σ x v s, FlyX c.env c.outer c.fr K P ad σ x v s → c.Fly K P ad σ x v s) (x : Exc) (st : Stmt)
    (hc : chkS c.hot c.env.scope c.names c.fn c.gn (.raise x) st = true) : c.SoundS (.raise x) st := by
  replace hc := onRaise1_inv hc
  obtain ⟨n, np, m, k1, k2, cpos, pos, rfl, hc⟩ := hc
  simp only [Bool.and_eq_true, beq_iff_eq, Bool.not_eq_true', decide_eq_true_eq] at hc
  obtain ⟨⟨⟨hot, rfl⟩, h1⟩, hm⟩ := hc
  intro K P ad σ s Q Ex I hB hP hE h
  obtain ⟨nid, iid, cf⟩ := callFacts x
  refine wpAny_Raise_call cf (raiseFacts x) (ok.hA hot) rfl (blt_ok ok I hB h1 (excBlt x) ⟨rfl, ?_⟩)
  refine Calls.evalArgs_plain (args_cons (wpAny_Constant_str (args_nil ⟨rfl, by simp only [List.length_cons, List.length_nil]; decide +kernel, fun h' e hx => ?_⟩)) rfl)
  have J := I.grow (h' := h') (tk := s.toks + 1) hx.keeps
  refine h P ad _ (Ext.refl K P) J ⟨_, _, rfl⟩ (.ref e) (hfly _ _ _ _ _ _ _ ?_)
  obtain ⟨t, ht, _, _⟩ := hx.there
  have hnb : ∀ b ob, (PySem.W.hideAll s.heap (c.env.locals :: c.fr)).get? b = some ob → s.heap.get? b = some ob := fun b ob q => PySem.W.of_hideAll _ q
  refine ⟨e, PySem.W.hideAll s.heap (c.env.locals :: c.fr), .ref t, rfl, fun a o q hq1 hq mine => ?_, fun b ob q => hx.keeps _ _ (hnb b ob q), ?_, ?_, .inr ⟨_, _, ht, rfl, rfl, rfl, rfl⟩⟩
  · have old : s.heap.get? a = some o := by
      rcases mine with m | m | ⟨i, d, m, rfl⟩
      · obtain ⟨o', g1, g2, _⟩ := I.keep a o m
        rw [g1, g2 hq]
      · exact (I.isin a o m).1
      · obtain ⟨mm, _, hl⟩ := I.locs
        have hi : i < c.names.length := by rw [← I.len]; exact (List.getElem?_eq_some_iff.mp m).1
        obtain ⟨oo, hoo⟩ := (hl i c.names[i] _ (by simp [hi]) m).there
        have := hx.keeps _ _ hoo
        rw [show h'.get? (ad i) = some o from q] at this
        cases this
        exact hoo
    exact PySem.W.hideAll_get _ old fun hm => by
      rcases List.mem_cons.mp hm with q2 | hm
      · exact hq1 q2
      · exact hq hm
  · cases q : (PySem.W.hideAll s.heap (c.env.locals :: c.fr)).get? e with
    | none => rfl
    | some ob => have := hnb e ob q; have hn : s.heap.get? e = none := hx.new; rw [hn] at this; cases this
  · obtain ⟨mm, hn, _⟩ := I.locs
    obtain ⟨oF, es, ep, hF1, hF2, _⟩ := hn
    refine ⟨(by rw [ok.kind]; intro z; cases z), ⟨_, oF, okx.own, PySem.W.hideAll_none _ (.head _), hx.keeps _ _ hF1, (fun vs q => by rw [hF2] at q; cases q)⟩, funFrames_of okx.outs fun a ha => ⟨PySem.W.hideAll_none _ (.tail _ ha), ?_⟩⟩
    obtain ⟨oo, es', n', q1, q2⟩ := hB.2 a ha
    obtain ⟨o', g1, _, _, _, g5⟩ := I.keep a oo q1
    exact ⟨o', hx.keeps _ _ g1, fun vs q => by rw [g5, q2] at q; cases q⟩

/-- the first note of an exception in its own frame -/
theorem note_first {M : Model} {A : Around} {E : Value → Shared → Prop} {s : Shared} {base : Heap} {env : Env} {outer : List Env} {L e : Addr} {oe : Obj} {vs : Array Value} {a0 : Value} {Q : Unit → Shared → Prop}
    (hfr : A.frames = some (env :: outer)) (hl : s.heap.FunFrames base (env :: outer)) (hf : env.frame = some L)
    (he : s.heap.get? e = some oe) (hkb : base.StaysIn s.heap) (hen : base.get? e = none) (hd : oe.data = .fields vs) (h1 : vs[1]? = some .none) (h0 : vs[0]? = some a0)
    (h : ∀ h', Heap.NotedW base (env :: outer) e oe.cls a0 (rawInt L) s.heap h' → Q () { s with heap := h' }) : wpAny M A (noteFrame (.ref e) env) Q E s := by
  unfold noteFrame
  simp only [hf]
  refine wpAny_bind (wpAny_field he hd h1 ?_)
  rw [if_neg (by decide)]
  exact wpAny_entryW hfr hl hf he hkb hen hd (Array.getElem?_eq_some_iff.mp h1).1 h0 h

/-- an exception taken by its own frame: the frame's facts stand -/
theorem Inv.slots {fr : List Addr} {F : Addr} {names : List Str} {K P : Part} {ad : Nat → Addr} {σ : List L} {s : Shared} (I : Inv fr F names K P ad σ s) (hfr : ∀ a ∈ fr, ∃ o es n, K a = some o ∧ o.data = .dict es n)
    {h' : Heap} {tk : Nat} (hb : ∀ a o, s.heap.get? a = some o → a ≠ F → a ∉ fr → Mine K P ad σ a o → h'.get? a = some o) (hu : s.heap.UpToSlots h') : Inv fr F names K P ad σ { s with heap := h', toks := tk } := by
  obtain ⟨m, hn, hl⟩ := I.locs
  have nF : ∀ a o, K a = some o → a ≠ F := fun a o e q => by rw [q, I.kF] at e; cases e
  refine ⟨fun a o e => ?_, fun a o e => ?_, I.kF, I.pF, I.len, ⟨m, hu.ns hn, fun i x l e1 e2 => ?_⟩, I.sep⟩
  · obtain ⟨o1, h1, h2, h3, h4, h5⟩ := I.keep a o e
    by_cases q : a ∈ fr
    · obtain ⟨oo, es, n, q1, q2⟩ := hfr a q
      rw [e] at q1; cases q1
      obtain ⟨sl, hs⟩ := hu a o1 h1 fun vs z => by rw [h5, q2] at z; cases z
      exact ⟨_, hs, fun z => absurd q z, h3, h4, h5⟩
    · exact ⟨o1, hb a o1 h1 (nF a o e) q (.inl (by rw [h2 q]; exact e)), h2, h3, h4, h5⟩
  · obtain ⟨hs, ws, n0, hd0⟩ := I.isin a o e
    refine ⟨hb a o hs (fun z => by rw [z, I.pF] at e; cases e) (fun q => ?_) (.inr (.inl e)), ws, n0, hd0⟩
    obtain ⟨oo, es, n, q1, q2⟩ := hfr a q
    obtain ⟨o1, h1, _, _, _, h5⟩ := I.keep a oo q1
    rw [hs] at h1; cases h1
    rw [hd0, q2] at h5; cases h5
  · have r := hl i x l e1 e2
    cases l with
    | unset => trivial
    | pin b => exact r
    | val d => exact r
    | own d =>
      refine ⟨r.1, r.2.1.heap fun o e => hb _ _ e r.2.2.2.2 (fun q => ?_) (.inr (.inr ⟨i, d, e2, rfl⟩)), r.2.2⟩
      obtain ⟨oo, es, n, q1, q2⟩ := hfr _ q
      rw [r.2.2.1] at q1; cases q1

theorem chkHs_ok {sc : Scope} {names gn : List Str} : ∀ {h : List S} {hx : List Stmt}, chkHs sc names gn h hx = true → chkSs true sc names [] gn h hx = true
  | [], hx, hc => hc
  | s :: r, [], hc => absurd hc Bool.false_ne_true
  | s :: r, x :: t, hc => by
    replace hc := and_inv hc
    have h2 := chkHs_ok hc.2
    cases s <;> first | exact absurd hc.1 Bool.false_ne_true | skip
    · exact Bool.and_eq_true_iff.mpr ⟨hc.1, h2⟩
    · exact Bool.and_eq_true_iff.mpr ⟨hc.1, h2⟩

/-- the frame while it handles an exception -/
noncomputable def Cx.hotOf (c : Cx) (v : Value) : Cx := { c with A := c.A.mark (some v), hot := true, fn := [], Fly := fun _ _ _ _ _ _ _ => False }
theorem hot_ok (ok : c.Ok) (v : Value) : (c.hotOf v).Ok where
  kind := ok.kind
  gl := ok.gl
  bu := ok.bu
  hA := fun x => by cases x
  un := ok.un
  gns := ok.gns
  bns := ok.bns
  nofr := ok.nofr
  nd := ok.nd
  blt := ok.blt
  gok := ok.gok
  fok := fun f x h => by simp [Cx.hotOf] at h
theorem hot_okS (ok : c.Ok) (v : Value) : (c.hotOf v).OkS where
  ok := hot_ok ok v
  fly := fun _ _ _ _ _ _ _ _ _ h => h
  raise := fun x st hc => by
    replace hc := onRaise1_inv hc
    obtain ⟨_, _, _, _, _, _, _, rfl, hc⟩ := hc
    simp [Cx.hotOf] at hc
  tryOk := fun b x h st hc _ => by
    replace hc := onTry1_inv hc
    obtain ⟨_, _, _, _, _, _, rfl, hc⟩ := hc
    simp [Cx.hotOf] at hc

theorem try_ok (ok : c.Ok) (okx : OkX c) (hfly : ∀ K P ad σ x v s, c.Fly K P ad σ x v s → FlyX c.env c.outer c.fr K P ad σ x v s) (b : List S) (x : Exc) (hd : List S) (st : Stmt)
    (hc : chkS c.hot c.env.scope c.names c.fn c.gn (.try b x hd) st = true) (hbody : ∀ bx, chkSs c.hot c.env.scope c.names c.fn c.gn b bx = true → c.SoundSs b bx) : c.SoundS (.try b x hd) st := by
  replace hc := onTry1_inv hc
  obtain ⟨bx, n, np, hx, hp, pos, rfl, hc⟩ := hc
  simp only [Bool.and_eq_true, beq_iff_eq, Bool.not_eq_true'] at hc
  obtain ⟨⟨⟨⟨⟨hot, rfl⟩, h1⟩, h2⟩, h3⟩, h4⟩ := hc
  intro K P ad σ s Q Ex I hB hP hE h
  refine wpAny_Try_except (hbody bx h2 K P ad σ s _ _ I hB hP PassesOwn.looking (wpSs_mono (fun fl σ' y => ?_) h))
  intro P1 ad1 s1 e1 I1 v1'
  cases fl with
  | next => exact wpAny_execs_nil (y P1 ad1 s1 e1 I1 v1')
  | cont => exact y P1 ad1 s1 e1 I1 v1'
  | ret d => exact fun v r => y P1 ad1 s1 e1 I1 v1' v r
  | exc z =>
    obtain ⟨rfl, hw⟩ := y
    intro v hf
    obtain ⟨e, base, a0, rfl, hbase, hst, hen, hff, hcase⟩ := hfly _ _ _ _ _ _ _ hf
    have noted : ∀ h₄, Heap.HeldW base (c.env :: c.outer) e (.type (excS z)) a0 c.env.locals h₄ → s1.heap.UpToSlots h₄ →
        wpAny (model c.prog c.w) c.A (setFlight (.ref e) none) (fun _ s₃ => wpAny (model c.prog c.w) c.A (handleBy (.ref e) c.env [.ExceptHandler (some (.Name (excName z) np)) none hx hp]) Q Ex s₃) Ex { s1 with heap := h₄ } := by
      intro h₄ held sm₄
      refine wpAny_landsW held fun h₅ fl₅ sm₅ => ?_
      cases hx with
      | nil => simp at h3
      | cons b₀ suite =>
        have I5 : c.Inv K P1 ad1 σ' { s1 with heap := h₅ } := I1.slots (tk := s1.toks) hB.2 (fun a o q q1 q2 m => fl₅.1 _ _ (hbase a o q q1 q2 m)) (sm₄.trans sm₅)
        have I5' : (c.hotOf (.ref e)).Inv K P1 ad1 σ' { s1 with heap := h₅ } := I5
        have hB' : (c.hotOf (.ref e)).Based K := hB
        refine wpAny_handleBy_builtin (X := excS z) (T := excS z) (b := true) (raiseFacts z).isExc (excNotTuple z) (excSub z) ?_
        refine blt_ok (c := c.hotOf (.ref e)) (hot_ok ok _) I5' hB' h1 (excBlt z) ⟨rfl, fl₅.there, ?_⟩
        simp only [if_true]
        refine lands_againW fl₅ fun h₆ fl₆ sm₆ => ?_
        have I6 : c.Inv K P1 ad1 σ' { s1 with heap := h₆ } := I1.slots (tk := s1.toks) hB.2 (fun a o q q1 q2 m => fl₆.1 _ _ (hbase a o q q1 q2 m)) ((sm₄.trans sm₅).trans sm₆)
        have I6' : (c.hotOf (.ref e)).Inv K P1 ad1 σ' { s1 with heap := h₆ } := I6
        refine wpAny_noRaise (soundSs (c := c.hotOf (.ref e)) (hot_okS ok _) hd (b₀ :: suite) (chkHs_ok h4) K P1 ad1 σ' _ Q (fun _ _ => False) I6' hB' (hP.trans e1.1) PassesOwn.never (wpSs_mono (fun fl σ'' w => ?_) hw))
        intro P2 ad2 s2 e2 I2 v2'
        have I2' : c.Inv K P2 ad2 σ'' s2 := I2
        have v12 : Evo s s2 := (v1'.trans (show Evo s1 { s1 with heap := h₆ } from ⟨_, _, rfl⟩)).trans v2'
        cases fl with
        | next => exact w P2 ad2 s2 (e1.trans e2) I2' v12
        | cont => exact w P2 ad2 s2 (e1.trans e2) I2' v12
        | ret d => exact w P2 ad2 s2 (e1.trans e2) I2' v12
        | exc q => exact fun v hv => hv.elim
    rcases hcase with htr | ⟨oe, vs, he, hcls, hdat, h0, h1'⟩
    · exact wpAny_looks_onW okx.frames okx.own ⟨hst, hen, hff, htr⟩ fun h₄ held sm => noted h₄ held sm
    · refine note_first okx.frames hff okx.own he hst hen hdat h1' h0 fun h₄ hN => ?_
      rw [hcls] at hN
      obtain ⟨k1, k2, k3, k4⟩ := hN
      exact noted h₄ ⟨k1, hen, k2, k3⟩ k4
end
end Lim

/-! Functions: a table of mini texts, pure contracts, calls. -/
namespace Lim
open PySem PyProof.Rows

set_option genInjectivity false
set_option genSizeOf false
structure Fun where
  name : Str
  params : List Str
  locals : List Str
  body : List S

structure Wd where
  prog : Program
  w : World
  hb : Heap
  mg : Str → Option Value
  mb : Str → Option Value
  P0 : Part
  gn : List Str
  F : Nat → List D → Res D
  G : Nat → Option D
  funs : List Fun

noncomputable def initL (f : Fun) (ds : List D) : List L := ds.map .val ++ List.replicate f.locals.length .unset

/-- the pure contract of a def -/
noncomputable def PureOk (F : Nat → List D → Res D) (G : Nat → Option D) (k : Nat) (f : Fun) : Prop := ∀ ds, match F k ds with
  | .ok d => ds.length = f.params.length ∧ wpSs F G f.body (initL f ds) (fun fl _ => fl = .ret d)
  | .exc x => ds.length = f.params.length ∧ wpSs F G f.body (initL f ds) (fun fl _ => fl = .exc x)
  | .stuck => True

namespace Wd
variable (W : Wd)
noncomputable def fn : List Str := W.funs.map (·.name)

structure FnAt (k : Nat) (f : Fun) (fa : Addr) (fd : FuncData) (body : List Stmt) : Prop where
  mg : W.mg f.name = some (.ref fa)
  at_ : ∃ o, W.hb.get? fa = some o ∧ o.data = .func fd
  hbody : fd.body = .stmts body
  code : W.hb.CodeRec fd.code fd.qualname
  glob : fd.globals = mainGlobals
  buil : fd.builtins = builtinsNs
  kind : fd.scope.kind = .function
  co : fd.scope.isCoroutine = false
  gen : fd.scope.isGenerator = false
  cell : ∀ x ∈ fd.scope.names, x.2 ≠ .cell
  bind : ∀ vs : List Value, vs.length = f.params.length → bindArgs fd ⟨vs, []⟩ = pure (f.params.zip vs)
  loc : ∀ p ∈ f.params, fd.scope.names.lookup p = some .local
  nd : (f.params ++ f.locals).Nodup
  chk : chkSs false fd.scope (f.params ++ f.locals) (W.fn.take k) W.gn f.body body = true

noncomputable def cx (A : Around) (env : Env) (outer : List Env) (fr : List Addr) (names : List Str) (m : Nat) : Cx where
  prog := W.prog
  w := W.w
  A := A
  env := env
  outer := outer
  hot := false
  fr := fr
  names := names
  fn := W.fn.take m
  gn := W.gn
  F := W.F
  G := W.G
  hb := W.hb
  mg := W.mg
  mb := W.mb
  P0 := W.P0
  Fly := FlyX env outer fr

structure Ok : Prop where
  gns : W.hb.Ns mainGlobals W.mg
  bns : W.hb.Ns builtinsNs W.mb
  nolim : W.hb.NoLimit
  blt : ∀ p ∈ bltins, W.mg p.1 = none ∧ W.mb p.1 = some p.2
  gok : ∀ g d x, W.G g = some d → W.gn[g]? = some x → ∃ v, W.mg x = some v ∧ Rep W.P0 d v
  fns : ∀ k f, W.funs[k]? = some f → (∃ fa fd body, W.FnAt k f fa fd body) ∧ PureOk W.F W.G k f
end Wd

theorem lookup_zip : ∀ (ps : List Str) (vs : List Value) (i : Nat) (x : Str) (v : Value), ps.Nodup → ps[i]? = some x → vs[i]? = some v → (ps.zip vs).reverse.lookup x = some v := by
  intro ps vs i x v hnd hx hv
  have key : ∀ (ps : List Str) (vs : List Value) (i : Nat), ps.Nodup → ps[i]? = some x → vs[i]? = some v → (ps.zip vs).reverse.lookup x = some v := by
    intro ps
    induction ps with
    | nil => intro vs i _ h _; simp at h
    | cons p r ih =>
      intro vs i hnd hx hv
      cases vs with
      | nil => simp at hv
      | cons v0 vs =>
        rw [List.zip_cons_cons, List.reverse_cons, List.lookup_append]
        cases i with
        | zero =>
          simp only [List.getElem?_cons_zero, Option.some.injEq] at hx hv
          subst hx; subst hv
          have hn : (r.zip vs).reverse.lookup p = none := by
            rw [List.lookup_eq_none_iff]
            intro q hq
            have h1 : q.1 ∈ r := (List.of_mem_zip (List.mem_reverse.mp hq)).1
            have h2 := (List.nodup_cons.mp hnd).1
            rw [bne_iff_ne]
            intro e; exact h2 (by rw [e]; exact h1)
          rw [hn]; simp
        | succ i =>
          rw [ih vs i (List.nodup_cons.mp hnd).2 (by simpa using hx) (by simpa using hv)]
          rfl
  exact key ps vs i hnd hx hv

theorem ns_data {h h' : Heap} {a : Addr} {m : Str → Option Value} {o' : Obj} (hn : h.Ns a m) (ho : h'.get? a = some o') (hd : ∀ o, h.get? a = some o → o'.data = o.data) : h'.Ns a m := by
  obtain ⟨o, es, ep, h1, h2, h3⟩ := hn
  exact ⟨o', es, ep, ho, (hd o h1).trans h2, h3⟩

/-- back in the caller: all that stood stands (frames of the stack up to their slots) -/
theorem Inv.back {fr : List Addr} {F : Addr} {names : List Str} {K P P1 : Part} {ad : Nat → Addr} {σ : List L} {s s1 : Shared} (I : Inv fr F names K P ad σ s) (hfr : ∀ a ∈ fr, K a ≠ Option.none)
    (hk : Keep (F :: fr) (fun a => s.heap.get? a) s1.heap) (hin : In P1 s1.heap) (hsub : Sub P P1) (hold : ∀ a, s.heap.get? a ≠ Option.none → P1 a = P a) : Inv fr F names K P1 ad σ s1 := by
  obtain ⟨m, hn, hl⟩ := I.locs
  obtain ⟨oF, hoF⟩ : ∃ o, s.heap.get? F = some o := let ⟨o, _, _, e, _⟩ := hn; ⟨o, e⟩
  have nF : ∀ a o, K a = some o → a ≠ F := fun a o e q => by rw [q, I.kF] at e; cases e
  have some_ne : ∀ {a : Addr} {o : Obj}, s.heap.get? a = some o → s.heap.get? a ≠ Option.none := fun e => by rw [e]; exact fun x => nomatch x
  refine ⟨fun a o e => ?_, hin, I.kF, ?_, I.len, ⟨m, ?_, fun i x l e1 e2 => ?_⟩, I.sep⟩
  · obtain ⟨o1, h1, h2, h3, h4, h5⟩ := I.keep a o e
    obtain ⟨o2, g1, g2, g3, g4, g5⟩ := hk a o1 h1
    refine ⟨o2, g1, fun q => ?_, g3.trans h3, g4.trans h4, g5.trans h5⟩
    have : a ∉ F :: fr := fun hm => by
      rcases List.mem_cons.mp hm with rfl | hm
      · exact nF _ _ e rfl
      · exact q hm
    rw [g2 this, h2 q]
  · rw [hold F (some_ne hoF)]; exact I.pF
  · obtain ⟨o2, g1, _, _, _, g5⟩ := hk F oF hoF
    exact ns_data hn g1 fun o e => by rw [hoF] at e; cases e; exact g5
  · have r := hl i x l e1 e2
    cases l with
    | unset => trivial
    | pin b => exact r
    | val d => obtain ⟨v, h1, h2⟩ := r; exact ⟨v, h1, h2.mono hsub⟩
    | own d =>
      obtain ⟨oo, hoo⟩ := r.there
      have hnin : ad i ∉ F :: fr := fun hm => by
        rcases List.mem_cons.mp hm with q | hm
        · exact r.2.2.2.2 q
        · exact hfr _ hm r.2.2.1
      obtain ⟨o2, g1, g2, _⟩ := hk (ad i) oo hoo
      rw [g2 hnin] at g1
      refine ⟨r.1, (r.2.1.heap fun o e => ?_).mono hsub, r.2.2.1, (hold _ (some_ne hoo)).trans r.2.2.2.1, r.2.2.2.2⟩
      rw [hoo] at e; cases e; exact g1


theorem init_inv {fr : List Addr} {P : Part} {s : Shared} {h₀ : Heap} {tk : Nat} {f : Fun} {ds : List D} {vs : List Value}
    (hin : In P s.heap) (hr : Reps P ds vs) (hlen : ds.length = f.params.length) (hnd : (f.params ++ f.locals).Nodup)
    (hn : h₀.Ns s.heap.objs.size (fun x => (f.params.zip vs).reverse.lookup x)) (up : ∀ b o, s.heap.get? b = some o → h₀.get? b = some o) :
    Inv fr s.heap.objs.size (f.params ++ f.locals) (fun a => s.heap.get? a) P (fun _ => 0) (initL f ds) { s with heap := h₀, toks := tk } := by
  have hnone : s.heap.get? s.heap.objs.size = Option.none := Heap.get?_none_of_le (Nat.le_refl _)
  have hv := (reps_all.mp hr)
  refine ⟨fun a o e => ⟨o, up a o e, fun _ => rfl, rfl, rfl, rfl⟩, hin.of_keeps up, hnone, hin.size, ?_, ⟨(fun x => (f.params.zip vs).reverse.lookup x), hn, fun i x l e1 e2 => ?_⟩, fun i j di dj e1 => ?_⟩
  · simp [initL, hlen]
  · by_cases q : i < ds.length
    · have hd : ds[i]? = some ds[i] := by simp [q]
      obtain ⟨v, h1, h2⟩ := hv.get hd
      have e2' : l = .val ds[i] := by
        simp only [initL] at e2
        rw [List.getElem?_append_left (by simpa using q)] at e2
        simp [q] at e2
        exact e2.symm
      subst e2'
      have hx : f.params[i]? = some x := by rw [List.getElem?_append_left (by omega)] at e1; exact e1
      exact ⟨v, lookup_zip _ _ _ _ _ (List.nodup_append.mp hnd).1 hx h1, h2⟩
    · have e2' : l = .unset := by
        simp only [initL] at e2
        rw [List.getElem?_append_right (by simpa using q)] at e2
        rw [List.getElem?_replicate] at e2
        split at e2
        · exact (Option.some.inj e2).symm
        · cases e2
      subst e2'
      trivial
  · simp only [initL] at e1
    rw [List.getElem?_append] at e1
    split at e1
    · simp at e1
    · rw [List.getElem?_replicate] at e1
      split at e1 <;> cases e1

/-- the room that function k wants -/
noncomputable def Room (A : Around) (k : Nat) : Prop := A.handled = none ∧ A.depth + k + 2 < recursionLimit ∧ A.units + 4 * (k + 2) + 200 < cLine

theorem cx_ok {W : Wd} (o : W.Ok) {A : Around} {env : Env} {outer : List Env} {fr : List Addr} {names : List Str} {m : Nat} (hk : env.scope.kind = .function) (hg : env.globals = mainGlobals) (hb : env.builtins = builtinsNs)
    (hA : A.handled = none) (hu : A.units + 100 < cLine) (hfr : ∀ a ob, W.hb.get? a = some ob → a ∉ fr) (hnd : names.Nodup)
    (hcall : ∀ k, k < m → ∀ f, W.funs[k]? = some f → ∀ fa fd body, W.FnAt k f fa fd body → (W.cx A env outer fr names m).CallOk k fa) : (W.cx A env outer fr names m).Ok where
  kind := hk
  gl := hg
  bu := hb
  hA := fun _ => hA
  un := hu
  gns := o.gns
  bns := o.bns
  nofr := hfr
  nd := hnd
  blt := o.blt
  gok := o.gok
  fok := fun k x hx => by
    have hx' : (W.fn.take m)[k]? = some x := hx
    rw [List.getElem?_take] at hx'
    split at hx'
    · rename_i hlt
      simp only [Wd.fn, List.getElem?_map] at hx'
      obtain ⟨f, hf, rfl⟩ := Option.map_eq_some_iff.mp hx'
      obtain ⟨⟨fa, fd, body, hat⟩, _⟩ := o.fns k f hf
      obtain ⟨ob, ho, hd⟩ := hat.at_
      exact ⟨fa, ob, fd, hat.mg, ho, hd, hcall k hlt f hf fa fd body hat⟩
    · cases hx'

/-- what a call of function k does, whoever calls it -/
noncomputable def BodyOk (W : Wd) (k : Nat) (fa : Addr) : Prop := ∀ (A : Around) (outer : List Env) (fr : List Addr) (s : Shared) (P : Part) (ds : List D) (vs : List Value) (R : Result → Shared → Prop),
  Room A k → A.frames = some outer → (∀ e ∈ outer, e.scope.kind ≠ .module ∧ ∃ L ∈ fr, e.frame = some L) → In P s.heap → (∀ a ob, W.hb.get? a = some ob → s.heap.get? a = some ob ∧ a ∉ fr) →
  (∀ a ∈ fr, ∃ o es n, s.heap.get? a = some o ∧ o.data = .dict es n) → Sub W.P0 P → Reps P ds vs →
  (W.F k ds).wp (fun d => ∀ P1 v s1, Sub P P1 → (∀ a, s.heap.get? a ≠ Option.none → P1 a = P a) → In P1 s1.heap → Keep fr (fun a => s.heap.get? a) s1.heap → Rep P1 d v → Evo s s1 → R (.ok (.ret v)) s1)
    (fun x => ∀ e a0 base s1, (∀ a o, s.heap.get? a = some o → a ∉ fr → base.get? a = some o) → Keep fr (fun a => s.heap.get? a) s1.heap → Heap.FlyingW base outer e (.type (excS x)) a0 s1.heap → Evo s s1 → R (.error (.ref e)) s1) →
  codeAny (model W.prog W.w) A (.call (.ref fa) ⟨vs, []⟩) R s

theorem call_of_body {W : Wd} {k : Nat} {fa : Addr} (hb : BodyOk W k fa) {A : Around} {env : Env} {outer : List Env} {fr : List Addr} {names : List Str} {m : Nat} (hroom : Room A k) (hfrm : A.frames = some (env :: outer)) (hown : env.frame = some env.locals) (hkind : env.scope.kind = .function)
    (houts : ∀ e ∈ outer, e.scope.kind ≠ .module ∧ ∃ L ∈ fr, e.frame = some L) (hfr : ∀ a ob, W.hb.get? a = some ob → a ∉ fr ∧ a ≠ env.locals) : (W.cx A env outer fr names m).CallOk k fa := by
  intro K P ad σ s Q Ex ds vs I hB hP hr h
  have frNe : ∀ a ∈ fr, K a ≠ Option.none := fun a ha => by obtain ⟨o, _, _, q, _⟩ := hB.2 a ha; rw [q]; exact fun x => nomatch x
  obtain ⟨mm, hn, hl⟩ := id I.locs
  obtain ⟨oF, es, ep, hF1, hF2, _⟩ := id hn
  refine wpAny_call (hb A (env :: outer) (env.locals :: fr) s P ds vs _ hroom hfrm ?_ I.isin ?_ ?_ hP hr (Res.wp_mono h (fun d hd P1 v s1 hsub hold hin hk hv ev => ?_) fun x hx e a0 base s1 hbase hk hfl ev => ?_))
  · intro e he
    rcases List.mem_cons.mp he with rfl | he
    · exact ⟨(by rw [hkind]; intro z; cases z), _, List.mem_cons_self .., hown⟩
    · obtain ⟨q1, L, q2, q3⟩ := houts e he
      exact ⟨q1, L, List.mem_cons_of_mem _ q2, q3⟩
  · intro a ob q
    obtain ⟨o', h1, h2, _⟩ := I.keep a ob (hB.1 a ob q)
    refine ⟨by rw [h1, h2 (hfr a ob q).1], fun hm => ?_⟩
    rcases List.mem_cons.mp hm with q2 | hm
    · exact (hfr a ob q).2 q2
    · exact (hfr a ob q).1 hm
  · intro a ha
    rcases List.mem_cons.mp ha with rfl | ha
    · exact ⟨oF, es, ep, hF1, hF2⟩
    · obtain ⟨oo, es', n', q1, q2⟩ := hB.2 a ha
      obtain ⟨o', g1, _, _, _, g5⟩ := I.keep a oo q1
      exact ⟨o', es', n', g1, g5.trans q2⟩
  · refine hd P1 v s1 ⟨hsub, fun a q => ?_⟩ (Inv.back I frNe hk hin hsub hold) hv ev
    cases eK : K a with
    | none => exact absurd eK q
    | some oo =>
      obtain ⟨o', h1, _⟩ := I.keep a oo eK
      exact hold a (by rw [h1]; exact fun x => nomatch x)
  · have inP : In P s1.heap := fun a o q => by
      obtain ⟨g1, ws, n0, g2⟩ := I.isin a o q
      have hnin : a ∉ env.locals :: fr := fun hm => by
        rcases List.mem_cons.mp hm with rfl | hm
        · have z : P env.locals = Option.none := I.pF
          rw [z] at q; cases q
        · obtain ⟨oo, es', n', q1, q2⟩ := hB.2 a hm
          obtain ⟨o', f1, _, _, _, f5⟩ := I.keep a oo q1
          rw [g1] at f1; cases f1
          rw [g2, q2] at f5; cases f5
      obtain ⟨o2, f1, f2, _⟩ := hk a o g1
      exact ⟨by rw [f1, f2 hnin], ws, n0, g2⟩
    have J : Inv fr env.locals names K P ad σ s1 := Inv.back I frNe hk inP (Sub.refl P) fun _ _ => rfl
    refine hx P (.ref e) s1 (Ext.refl K P) J ?_ ev
    refine ⟨e, base, a0, rfl, fun a o q q1 q2 mine => ?_, hfl.1, hfl.2.1, hfl.2.2.1, .inl hfl.2.2.2⟩
    have old : s.heap.get? a = some o := by
      rcases mine with z | z | ⟨i, d, z, rfl⟩
      · obtain ⟨o', g1, g2, _⟩ := I.keep a o z
        rw [g1, g2 q2]
      · exact (I.isin a o z).1
      · have hi : i < names.length := by have := I.len; rw [show (W.cx A env outer fr names m).names = names from rfl] at this; rw [← this]; exact (List.getElem?_eq_some_iff.mp z).1
        obtain ⟨oo, hoo⟩ := (hl i names[i] _ (by show names[i]? = _; simp [hi]) z).there
        obtain ⟨o2, f1, f2, _⟩ := hk (ad i) oo hoo
        have hnin : ad i ∉ env.locals :: fr := fun hm => by
          rcases List.mem_cons.mp hm with q3 | hm
          · exact q1 q3
          · exact q2 hm
        rw [f2 hnin] at f1
        rw [f1] at q; cases q
        exact hoo
    exact hbase a o old fun hm => by
      rcases List.mem_cons.mp hm with q3 | hm
      · exact q1 q3
      · exact q2 hm

theorem bodyOk {W : Wd} (o : W.Ok) : ∀ (k : Nat) (f : Fun), W.funs[k]? = some f → ∀ fa fd body, W.FnAt k f fa fd body → BodyOk W k fa := by
  intro k
  induction k using Nat.strongRecOn with
  | ind k ih =>
    intro f hf fa fd body hat A outer fr s P ds vs R hroom hfrm houts hin hbs hfr hP hr h
    have hp := (o.fns k f hf).2 ds
    obtain ⟨ob, hob, hdat⟩ := hat.at_
    have go : ds.length = f.params.length → (∀ Q' : Post, (∀ fl σ', Q' fl σ' → match fl with | .ret d => W.F k ds = .ok d | .exc x => W.F k ds = .exc x | _ => False) → wpSs W.F W.G f.body (initL f ds) Q' → codeAny (model W.prog W.w) A (.call (.ref fa) ⟨vs, []⟩) R s) := by
      intro hlen Q' hQ' hw
      have hvl : vs.length = f.params.length := by rw [(reps_all.mp hr).length]; exact hlen
      have inH : ∀ a ob', W.hb.get? a = some ob' → s.heap.get? a = some ob' := fun a ob' q => (hbs a ob' q).1
      refine codeAny_call_def (fd := fd) (body := body) (binds := f.params.zip vs) (by have := hroom.2.1; show A.depth < recursionLimit; omega) (inH _ _ hob) hdat (o.nolim.keeps inH) (hat.code.keeps inH) hat.hbody (BindsTo.of_eq (hat.bind vs hvl)) hat.cell
        (fun p hp => hat.loc p.1 (List.of_mem_zip hp).1) (fun h₀ hn up => ?_) hat.co hat.gen hat.kind
      have J : (W.cx (A.deeper (callEnv fd s.heap.objs.size fa)) (callEnv fd s.heap.objs.size fa) outer fr (f.params ++ f.locals) k).Inv (fun a => s.heap.get? a) P (fun _ => 0) (initL f ds) { s with heap := h₀, toks := s.toks + (f.params.zip vs).length } :=
        init_inv (tk := s.toks + (f.params.zip vs).length) hin hr hlen hat.nd hn up
      have hframes : (A.deeper (callEnv fd s.heap.objs.size fa)).frames = some (callEnv fd s.heap.objs.size fa :: outer) := Around.frames_deeper hfrm
      have c'ok : (W.cx (A.deeper (callEnv fd s.heap.objs.size fa)) (callEnv fd s.heap.objs.size fa) outer fr (f.params ++ f.locals) k).Ok := by
        refine cx_ok o hat.kind hat.glob hat.buil hroom.1 (by have := hroom.2.2; show A.units + 3 + 100 < cLine; omega) (fun a ob' q => (hbs a ob' q).2) hat.nd ?_
        intro g hg f' hf' fa' fd' body' hat'
        refine call_of_body (ih g hg f' hf' fa' fd' body' hat') ⟨hroom.1, by have := hroom.2.1; show A.depth + 1 + g + 2 < recursionLimit; omega, by have := hroom.2.2; show A.units + 3 + 4 * (g + 2) + 200 < cLine; omega⟩ hframes rfl hat.kind houts ?_
        intro a ob' q
        refine ⟨(hbs a ob' q).2, fun q2 => ?_⟩
        have := Heap.lt_size (inH _ _ q)
        rw [q2] at this
        exact absurd this (Nat.lt_irrefl _)
      have c'okx : OkX (W.cx (A.deeper (callEnv fd s.heap.objs.size fa)) (callEnv fd s.heap.objs.size fa) outer fr (f.params ++ f.locals) k) := ⟨hframes, rfl, houts⟩
      have c'okS : (W.cx (A.deeper (callEnv fd s.heap.objs.size fa)) (callEnv fd s.heap.objs.size fa) outer fr (f.params ++ f.locals) k).OkS :=
        ⟨c'ok, fun K K' P ad σ x v s hs h => FlyX.mono hs h, fun x st hc => raise_ok c'ok c'okx (fun _ _ _ _ _ _ _ h => h) x st hc, fun b x h st hc hb => try_ok c'ok c'okx (fun _ _ _ _ _ _ _ h => h) b x h st hc hb⟩
      have hBased : (W.cx (A.deeper (callEnv fd s.heap.objs.size fa)) (callEnv fd s.heap.objs.size fa) outer fr (f.params ++ f.locals) k).Based (fun a => s.heap.get? a) := ⟨inH, hfr⟩
      refine soundSs c'okS f.body body hat.chk _ P _ _ _ _ _ J hBased hP PassesOwn.leaving (wpSs_mono (fun fl σ' hfl => ?_) hw)
      intro P1 ad1 s1 e1 I1 v1'
      have v01 : Evo s s1 := (show Evo s { s with heap := h₀, toks := s.toks + (f.params.zip vs).length } from ⟨_, _, rfl⟩).trans v1'
      have hfl' := hQ' fl σ' hfl
      cases fl with
      | next => exact hfl'.elim
      | cont => exact hfl'.elim
      | ret d =>
        have hfl'' : W.F k ds = .ok d := hfl'
        rw [hfl''] at h
        exact fun v hv => h P1 v s1 e1.1 (fun a q => e1.2 a q) I1.isin I1.keep hv v01
      | exc x =>
        have hfl'' : W.F k ds = .exc x := hfl'
        rw [hfl''] at h
        intro v hv
        obtain ⟨e, base, a0, rfl, hbase, hst, hen, hff, hcase⟩ := hv
        have nL : ∀ a oo, s.heap.get? a = some oo → a ≠ s.heap.objs.size := fun a oo q => Nat.ne_of_lt (Heap.lt_size q)
        have bb : ∀ a oo, s.heap.get? a = some oo → a ∉ fr → base.get? a = some oo := fun a oo q q2 => by
          obtain ⟨o2, f1, f2, _⟩ := I1.keep a oo q
          rw [f2 q2] at f1
          exact hbase a oo f1 (nL a oo q) q2 (.inl q)
        have fin : ∀ h', Heap.FlyingW base outer e (.type (excS x)) a0 h' → s1.heap.UpToSlots h' → R (.error (.ref e)) { s1 with heap := h' } := by
          intro h' hfw hu
          refine h e a0 base { s1 with heap := h' } bb (fun a oo q => ?_) hfw (v01.trans ⟨_, _, rfl⟩)
          obtain ⟨o2, f1, f2, f3, f4, f5⟩ := I1.keep a oo q
          by_cases q2 : a ∈ fr
          · obtain ⟨o3, es, n, g1, g2⟩ := hfr a q2
            have q' : s.heap.get? a = some oo := q
            rw [g1] at q'; cases q'
            obtain ⟨sl, hs⟩ := hu a o2 f1 fun ws z => by rw [f5, g2] at z; cases z
            exact ⟨_, hs, fun z => absurd q2 z, f3, f4, f5⟩
          · exact ⟨oo, hfw.1 _ _ (bb a oo q q2), fun _ => rfl, rfl, rfl, rfl⟩
        rcases hcase with htr | ⟨oe, ws, he, hcls, hdt, h0, h1⟩
        · exact wpAny_leaves_onW hframes rfl ⟨hst, hen, hff, htr⟩ fun h' hfw hu => fin h' hfw hu
        · refine wpAny_leaving_firstW hframes hff rfl he hst hen hdt h1 h0 fun h' hL => ?_
          rw [hcls] at hL
          obtain ⟨k1, ⟨_, _, k2⟩, k3, k4⟩ := hL
          exact fin h' ⟨k1, hen, k2, k3⟩ k4
    cases e : W.F k ds with
    | stuck => rw [e] at h; exact h.elim
    | ok d =>
      rw [e] at hp
      exact go hp.1 _ (fun fl σ' q => by subst q; exact e) hp.2
    | exc x =>
      rw [e] at hp
      exact go hp.1 _ (fun fl σ' q => by subst q; exact e) hp.2
end Lim

/-! The join with the head: what the written part of the heap says. -/
namespace Lim
open PySem PyProof.Rows PySem.W

theorem fm_congr {α β : Type} {f g : α → Option β} : ∀ l : List α, (∀ x ∈ l, f x = g x) → l.filterMap f = l.filterMap g
  | [], _ => rfl
  | x :: r, h => by rw [List.filterMap_cons, List.filterMap_cons, h x (.head _), fm_congr r fun y hy => h y (.tail _ hy)]
theorem zip_found : ∀ (ps : List Str) (vs : List Value), vs.length = ps.length → ∀ p ∈ ps, ((ps.zip vs).lookup p).isNone = false
  | [], _, _, _, hp => nomatch hp
  | q :: r, [], h, _, _ => by simp at h
  | q :: r, v :: vs, h, p, hp => by
    rw [List.zip_cons_cons, List.lookup_cons]
    by_cases e : (p == q) = true
    · rw [e]; rfl
    · have e' : (p == q) = false := by simpa using e
      rw [e']
      rcases List.mem_cons.mp hp with rfl | hp
      · simp at e
      · exact zip_found r vs (by simpa using h) p hp
theorem filterMap_zip : ∀ (ps : List Str) (vs : List Value), ps.Nodup → vs.length = ps.length → ps.filterMap (fun n => ((ps.zip vs).lookup n).map fun x => (n, x)) = ps.zip vs
  | [], vs, _, h => by simp
  | p :: r, [], _, h => by simp at h
  | p :: r, v :: vs, hnd, h => by
    have ih := filterMap_zip r vs (List.nodup_cons.mp hnd).2 (by simpa using h)
    rw [List.zip_cons_cons, List.filterMap_cons]
    have e1 : (((p, v) :: r.zip vs).lookup p) = some v := by rw [List.lookup_cons]; simp
    rw [e1]
    simp only [Option.map_some]
    congr 1
    rw [← ih]
    refine fm_congr _ fun n hn => ?_
    have hne : (n == p) = false := by
      rw [beq_eq_false_iff_ne]
      intro e; exact (List.nodup_cons.mp hnd).1 (e ▸ hn)
    rw [List.lookup_cons, hne, ih]
theorem bind_simple {fd : FuncData} {args : List Arg} (hp : fd.params = ⟨[], args, none, [], [], none, []⟩) (hd : fd.defaults = .none) (hnd : (args.map (·.arg)).Nodup) (vs : List Value) (hl : vs.length = args.length) :
    bindArgs fd ⟨vs, []⟩ = pure ((args.map (·.arg)).zip vs) := by
  have h1 : ¬ (vs.length > args.length) := by omega
  have hmiss : ((args.map (·.arg)).filter fun n => (((args.map (·.arg)).zip vs).lookup n).isNone) = [] := by
    rw [List.filter_eq_nil_iff]
    intro p hp
    rw [zip_found _ _ (by simpa using hl) p hp]
    simp
  unfold bindArgs
  simp only [hp, hd, List.map_nil, List.nil_append, List.forIn_nil, pure_bind, List.length_map, h1, decide_false, Bool.false_and]
  have hs : seqItems? Value.none = pure none := rfl
  have e0 : (#[] : Array Value).toList = [] := rfl
  simp only [hs, pure_bind, Option.getD_none, e0, List.length_nil, Nat.zero_sub, List.drop_nil, Nat.sub_zero, Bool.false_eq_true, if_false]
  rw [List.take_of_length_le (by simp)]
  simp only [hmiss, List.isEmpty_nil, Bool.not_true, Bool.false_eq_true, if_false, List.zip_nil_right, List.forIn_nil, pure_bind, List.append_nil]
  rw [filterMap_zip _ _ hnd (by simpa using hl)]

/-- one def of the table against the written part -/
noncomputable def chkFn (K : Frag) (f : Fun) (fnk gn : List Str) : Bool :=
  match nsIn K mainGlobals f.name with
  | some (some (.ref fa)) => (match K.lookup fa with
    | some ⟨_, _, .func fd, _⟩ => (match fd.body with
        | .stmts body => chkSs false fd.scope (f.params ++ f.locals) fnk gn f.body body
        | _ => false) && codeIn K fd.code fd.qualname && fd.globals == mainGlobals && fd.builtins == builtinsNs && fd.scope.kind == .function && !fd.scope.isCoroutine && !fd.scope.isGenerator &&
        fd.scope.names.all (fun x => x.2 != .cell) && f.params.all (fun p => fd.scope.names.lookup p == some .local) && decide (f.params ++ f.locals).Nodup &&
        fd.params.posonlyargs.isEmpty && fd.params.vararg.isNone && fd.params.kwonlyargs.isEmpty && fd.params.kw_defaults.isEmpty && fd.params.kwarg.isNone && fd.params.defaults.isEmpty &&
        fd.params.args.map (·.arg) == f.params && fd.defaults == .none
    | _ => false)
  | _ => false

noncomputable def chkAllFrom (K : Frag) (gn all : List Str) : Nat → List Fun → Bool
  | _, [] => true
  | k, f :: r => chkFn K f (all.take k) gn && chkAllFrom K gn all (k + 1) r
noncomputable def chkAll (K : Frag) (funs : List Fun) (gn : List Str) : Bool := chkAllFrom K gn (funs.map (·.name)) 0 funs

theorem chkAllFrom_get {K : Frag} {gn all : List Str} : ∀ {n : Nat} {fs : List Fun}, chkAllFrom K gn all n fs = true → ∀ k f, fs[k]? = some f → chkFn K f (all.take (n + k)) gn = true
  | _, [], _, k, f, h => by simp at h
  | n, g :: r, h, 0, f, hf => by
    simp only [chkAllFrom, Bool.and_eq_true] at h
    simp only [List.getElem?_cons_zero, Option.some.injEq] at hf
    subst hf; exact h.1
  | n, g :: r, h, k + 1, f, hf => by
    simp only [chkAllFrom, Bool.and_eq_true] at h
    have := chkAllFrom_get h.2 k f (by simpa using hf)
    rwa [show n + 1 + k = n + (k + 1) by omega] at this

theorem chkFn_ok {W : Wd} {K : Frag} (X : K.In W.hb) (gns : W.hb.Ns mainGlobals W.mg) {k : Nat} {f : Fun} (h : chkFn K f (W.fn.take k) W.gn = true) : ∃ fa fd body, W.FnAt k f fa fd body := by
  unfold chkFn at h
  split at h
  · rename_i fa hns
    split at h
    · rename_i oc od fd osl hlk
      simp only [Bool.and_eq_true, beq_iff_eq, Bool.not_eq_true', decide_eq_true_eq, List.isEmpty_iff, Option.isNone_iff_eq_none, List.all_eq_true, bne_iff_ne] at h
      obtain ⟨⟨⟨⟨⟨⟨⟨⟨⟨⟨⟨⟨⟨⟨⟨⟨⟨h0, h1⟩, h2⟩, h3⟩, h4⟩, h5⟩, h6⟩, h7⟩, h8⟩, h9⟩, p1⟩, p2⟩, p3⟩, p4⟩, p5⟩, p6⟩, p7⟩, p8⟩ := h
      split at h0
      · rename_i body hb
        refine ⟨fa, fd, body, mg_of X gns hns, ⟨_, X _ _ hlk, rfl⟩, hb, codeRec_of X h1, h2, h3, h4, h5, h6, fun x hx => h7 x hx, fun vs hvs => ?_, fun p hp => h8 p hp, h9, h0⟩
        have hp : fd.params = ⟨[], fd.params.args, none, [], [], none, []⟩ := by
          cases hq : fd.params with
          | mk a b c d e g i =>
            rw [hq] at p1 p2 p3 p4 p5 p6
            simp only at p1 p2 p3 p4 p5 p6
            rw [p1, p2, p3, p4, p5, p6]
        have hl : vs.length = fd.params.args.length := by rw [hvs, ← p7, List.length_map]
        rw [← p7]
        exact bind_simple hp p8 (by rw [p7]; exact (List.nodup_append.mp h9).1) vs hl
      · cases h0
    · cases h
  · cases h

/-- the built-ins are not bound by the text -/
noncomputable def chkBlt (K : Frag) : Bool := bltins.all fun p => nsIn K mainGlobals p.1 == some none

mutual
/-- data of the text's top -/
noncomputable def repB (K : Frag) : D → Value → Bool
  | .none, v => v == .none
  | .bool b, v => v == .bool b
  | .int i, v => match v with | .int j _ => i == j | _ => false
  | .str x, v => (match v with | .str y _ => x == y | _ => false) && okS x && decide (x.cps.size ≤ LIM)
  | .ilist _, _ => false
  | .list _, _ => false
  | .tup xs, v => match v with
    | .ref a => (match K.lookup a with
      | some ⟨.type "tuple", none, .seq vs _, ⟨[]⟩⟩ => decide (vs.size ≤ 1000) && repsB K xs vs.toList
      | _ => false)
    | _ => false
noncomputable def repsB (K : Frag) : List D → List Value → Bool
  | [], vs => vs.isEmpty
  | d :: r, vs => match vs with | v :: t => repB K d v && repsB K r t | [] => false
end
/-- the tuples of the written part -/
noncomputable def tupsOf (K : Frag) : Part := fun a => match K.lookup a with
  | some ⟨.type "tuple", none, .seq vs n, ⟨[]⟩⟩ => some (tupO vs.toList n)
  | _ => none

mutual
theorem repB_ok {K : Frag} : ∀ {d : D} {v : Value}, repB K d v = true → Rep (tupsOf K) d v
  | .none, v, h => by simpa [repB, Rep] using h
  | .bool b, v, h => by simpa [repB, Rep] using h
  | .int i, v, h => by
    simp only [repB] at h
    split at h
    · simp only [beq_iff_eq] at h; subst h; exact ⟨_, rfl⟩
    · cases h
  | .str x, v, h => by
    simp only [repB, Bool.and_eq_true, decide_eq_true_eq] at h
    obtain ⟨⟨h1, h2⟩, h3⟩ := h
    split at h1
    · simp only [beq_iff_eq] at h1; subst h1; exact ⟨⟨_, rfl⟩, h2, h3⟩
    · cases h1
  | .ilist _, v, h => by simp [repB] at h
  | .list _, v, h => by simp [repB] at h
  | .tup xs, v, h => by
    simp only [repB] at h
    split at h
    · rename_i a
      split at h
      · rename_i vs n hl
        simp only [Bool.and_eq_true, decide_eq_true_eq] at h
        refine ⟨a, vs.toList, n, rfl, by unfold tupsOf; rw [hl]; rfl, repsB_ok h.2, ?_⟩
        rw [Array.length_toList]; exact Nat.le_trans h.1 (by decide +kernel)
      · cases h
    · cases h
theorem repsB_ok {K : Frag} : ∀ {ds : List D} {vs : List Value}, repsB K ds vs = true → Reps (tupsOf K) ds vs
  | [], vs, h => by simpa [repsB, Reps] using h
  | d :: r, [], h => by simp [repsB] at h
  | d :: r, v :: t, h => by
    simp only [repsB, Bool.and_eq_true] at h
    exact ⟨v, t, rfl, repB_ok h.1, repsB_ok h.2⟩
end

noncomputable def chkGlob (K : Frag) (x : Str) (d : D) : Bool := match nsIn K mainGlobals x with
  | some (some v) => repB K d v
  | _ => false
/-- the global data: names and data, in order -/
noncomputable def chkGlobs (K : Frag) : List (Str × D) → Bool
  | [] => true
  | p :: r => chkGlob K p.1 p.2 && chkGlobs K r
theorem chkGlobs_get {K : Frag} : ∀ {gs : List (Str × D)}, chkGlobs K gs = true → ∀ (g : Nat) (p : Str × D), gs[g]? = some p → chkGlob K p.1 p.2 = true
  | [], _, g, p, h => by simp at h
  | q :: r, h, 0, p, hp => by
    simp only [chkGlobs, Bool.and_eq_true] at h
    simp only [List.getElem?_cons_zero, Option.some.injEq] at hp
    subst hp; exact h.1
  | q :: r, h, g + 1, p, hp => by
    simp only [chkGlobs, Bool.and_eq_true] at h
    exact chkGlobs_get h.2 g p (by simpa using hp)

theorem bootBlt : ∀ p ∈ bltins, bootBuiltins p.1 = some p.2 ∧ p.1 ≠ ("__name__" : Str) := by
  have h : (bltins.all fun p => decide (bootBuiltins p.1 = some p.2 ∧ p.1 ≠ ("__name__" : Str))) = true := by decide +kernel
  intro p hp
  exact of_decide_eq_true (List.all_eq_true.mp h p hp)

theorem lawOk {prog : Program} {w : World} {s : Shared} {K : Frag} {mg mb : Str → Option Value} (X : K.In s.heap) (gns : s.heap.Ns mainGlobals mg) (bns : s.heap.Ns builtinsNs mb) (nolim : s.heap.NoLimit) (hmb : ∀ x : Str, x ≠ "__name__" → mb x = bootBuiltins x)
    (funs : List Fun) (gs : List (Str × D)) (F : Nat → List D → Res D) (hfun : chkAll K funs (gs.map (·.1)) = true) (hblt : chkBlt K = true) (hG : chkGlobs K gs = true)
    (hpure : ∀ k f, funs[k]? = some f → PureOk F (fun g => (gs[g]?).map (·.2)) k f) {k : Nat} {f : Fun} {fa : Addr} (hf : funs[k]? = some f) (hmg : mg f.name = some (.ref fa)) (hk : k < 200)
    {sa : Addr} {vs : List Value} {ns : List Int} {n : Nat} (hs : s.heap.get? sa = some (listO vs n)) (hI : AllV IsI ns vs) (hlen : vs.length ≤ sizeLine) (hF : F k [.ilist ns] = .ok (.bool true))
    {Q E : Value → Shared → Prop} (hQ : ∀ s', (∀ b o, s.heap.get? b = some o → s'.heap.get? b = some o) → Evo s s' → Q (.bool true) s') :
    wpAny (model prog w) callerA (call (.ref fa) [.ref sa]) Q E s := by
  let P : Part := addP (tupsOf K) sa (listO vs n)
  have hinT : In (tupsOf K) s.heap := fun a o e => by
    unfold tupsOf at e
    split at e
    · rename_i vs' n' hl
      cases e
      have h1 := X _ _ hl
      exact ⟨by rw [h1]; simp [tupO], _, _, rfl⟩
    · cases e
  have hsT : tupsOf K sa = none := by
    cases e : tupsOf K sa with
    | none => rfl
    | some o =>
      have h1 := (hinT sa o e).1
      rw [hs] at h1
      unfold tupsOf at e
      split at e
      · cases e
        have := Option.some.inj h1
        simp [listO, tupO] at this
      · cases e
  have hin : In P s.heap := hinT.addP hs ⟨_, _, rfl⟩
  let W : Wd := { prog := prog, w := w, hb := s.heap, mg := mg, mb := mb, P0 := tupsOf K, gn := gs.map (·.1), F := F, G := fun g => (gs[g]?).map (·.2), funs := funs }
  have o : W.Ok := by
    refine ⟨gns, bns, nolim, fun p hp => ?_, fun g d x hd hx => ?_, fun k' f' hf' => ⟨?_, hpure k' f' hf'⟩⟩
    · have := List.all_eq_true.mp hblt p hp
      simp only [beq_iff_eq] at this
      exact ⟨mg_none_of X gns this, (hmb _ (bootBlt p hp).2).trans (bootBlt p hp).1⟩
    · obtain ⟨p, hp, rfl⟩ := Option.map_eq_some_iff.mp hd
      have hx' : (gs.map (·.1))[g]? = some x := hx
      rw [List.getElem?_map, hp] at hx'
      cases hx'
      have := chkGlobs_get hG g p hp
      unfold chkGlob at this
      split at this
      · rename_i v hv
        exact ⟨v, mg_of X gns hv, repB_ok this⟩
      · cases this
    · have := chkAllFrom_get hfun k' f' hf'
      rw [Nat.zero_add] at this
      exact chkFn_ok (W := W) X gns this
  obtain ⟨⟨fa', fd, body, hat⟩, _⟩ := o.fns k f hf
  have e : fa' = fa := by
    have h1 := hat.mg
    have h2 : mg f.name = some (.ref fa') := h1
    rw [hmg] at h2; cases h2; rfl
  subst e
  refine wpAny_call (bodyOk o k f hf fa' fd body hat callerA [] [] s P [.ilist ns] [.ref sa] _ ⟨rfl, ?_, ?_⟩ rfl (fun e he => nomatch he) hin (fun a ob q => ⟨q, fun x => nomatch x⟩) (fun a ha => nomatch ha) (addP_sub hsT) ⟨_, _, rfl, ⟨sa, vs, n, rfl, addP_self .., hI, hlen⟩, rfl⟩ ?_)
  · show 301 + k + 2 < 1000; omega
  · show 4 + 4 * (k + 2) + 200 < 9900; omega
  · show (F k [.ilist ns]).wp _ _
    rw [hF]
    intro P1 v s1 _ _ _ hkeep hv ev
    cases hv
    refine hQ s1 (fun b ob q => ?_) ev
    obtain ⟨o', h1, h2, _⟩ := hkeep b ob q
    rw [h1, h2 (fun x => nomatch x)]
end Lim

/-! The script and the end. -/
namespace Lim
open PySem PySem.W PyProof.Rows

theorem wells_ints {P : Params} {h : Heap} : ∀ {ns : List Int} {vs : List Value}, WellAll P h vs (ofPys (ns.map .int)) → AllV IsI ns vs ∧ vs.length = ns.length
  | [], vs, x => by
    cases x; exact ⟨rfl, rfl⟩
  | n :: r, vs, x => by
    simp only [List.map_cons, ofPys, ofPy] at x
    cases x with
    | cons a b =>
      cases a
      obtain ⟨h1, h2⟩ := wells_ints b
      exact ⟨⟨_, _, rfl, ⟨_, rfl⟩, h1⟩, by simp [h2]⟩
theorem script_of {P : Params} {h : Heap} {a : Addr} {ns : List Int} (x : Well P h (.ref a) (ofPy (.list (ns.map .int)))) : ∃ vs n, h.get? a = some (listO vs n) ∧ AllV IsI ns vs ∧ vs.length = ns.length := by
  simp only [ofPy] at x
  cases x with
  | list h1 h2 => exact ⟨_, _, h1, wells_ints h2⟩
theorem goodTrue {c : ClaimW} {cl : Str → Option Addr} {mean : ExcName → Option Value} {args : List WData} {s s' : Shared} (hk : ∀ b o, s.heap.get? b = some o → s'.heap.get? b = some o) (ev : Evo s s') (hg : s.gens = #[])
    (hn : ∀ cls, c.raises args cls = false) (hp : c.post args (.bool true) args = true) : GoodWG c cl mean args s (.ok (.ret (.bool true))) s' := by
  obtain ⟨_, _, rfl⟩ := ev
  exact GoodW.toG ⟨.inl ⟨_, .bool true, [], rfl, hn, .bool true, hp, unshared_nil⟩, hk, rfl, hg⟩
end Lim

/-! Plain: digits, values, loops. -/
namespace Lim
open PySem

noncomputable def val : List Int → Int
  | [] => 0
  | x :: r => x + 10000 * val r
noncomputable def Digs (a : List Int) : Prop := ∀ x ∈ a, 0 ≤ x ∧ x < 10000
noncomputable def lay (n : Nat) : List Int := if h : n = 0 then [] else ((n % 10000 : Nat) : Int) :: lay (n / 10000)
termination_by n
decreasing_by lia
noncomputable def trim : List Int → List Int
  | [] => []
  | x :: r => if trim r = [] ∧ x = 0 then [] else x :: trim r

theorem lay_zero : lay 0 = [] := by rw [lay]; rfl
theorem lay_pos {n : Nat} (h : 0 < n) : lay n = ((n % 10000 : Nat) : Int) :: lay (n / 10000) := by
  rw [lay, dif_neg (by lia)]
theorem lay_nil {n : Nat} : lay n = [] ↔ n = 0 := by
  constructor
  · intro h
    by_cases h0 : n = 0
    · exact h0
    · rw [lay_pos (by lia)] at h; cases h
  · rintro rfl; exact lay_zero

theorem Digs.nil : Digs [] := fun _ h => nomatch h
theorem Digs.cons {x : Int} {r : List Int} (h : 0 ≤ x ∧ x < 10000) (hr : Digs r) : Digs (x :: r) := fun y hy => by
  rcases List.mem_cons.mp hy with rfl | hy
  · exact h
  · exact hr y hy
theorem Digs.head {x : Int} {r : List Int} (h : Digs (x :: r)) : 0 ≤ x ∧ x < 10000 := h x (.head _)
theorem Digs.tail {x : Int} {r : List Int} (h : Digs (x :: r)) : Digs r := fun y hy => h y (.tail _ hy)
theorem Digs.snoc {x : Int} {r : List Int} (hr : Digs r) (h : 0 ≤ x ∧ x < 10000) : Digs (r ++ [x]) := fun y hy => by
  rcases List.mem_append.mp hy with hy | hy
  · exact hr y hy
  · rw [List.mem_singleton.mp hy]; exact h
theorem Digs.append {a b : List Int} (ha : Digs a) (hb : Digs b) : Digs (a ++ b) := fun y hy => by
  rcases List.mem_append.mp hy with hy | hy
  · exact ha y hy
  · exact hb y hy
theorem Digs.take {a : List Int} (h : Digs a) (k : Nat) : Digs (a.take k) := fun y hy => h y (List.mem_of_mem_take hy)
theorem Digs.drop {a : List Int} (h : Digs a) (k : Nat) : Digs (a.drop k) := fun y hy => h y (List.mem_of_mem_drop hy)
theorem Digs.get {a : List Int} (h : Digs a) {k : Nat} (hk : k < a.length) : 0 ≤ a[k] ∧ a[k] < 10000 := h _ (List.getElem_mem hk)
theorem Digs.set {a : List Int} (h : Digs a) {k : Nat} {x : Int} (hx : 0 ≤ x ∧ x < 10000) : Digs (a.set k x) := fun y hy => by
  rcases List.mem_or_eq_of_mem_set hy with hy | rfl
  · exact h y hy
  · exact hx

theorem digs_lay : ∀ n : Nat, Digs (lay n) := by
  intro n
  induction n using Nat.strongRecOn with
  | ind n ih =>
    by_cases h : n = 0
    · subst h; rw [lay_zero]; exact .nil
    · rw [lay_pos (by lia)]
      exact .cons ⟨by lia, by lia⟩ (ih _ (by lia))
theorem val_lay : ∀ n : Nat, val (lay n) = n := by
  intro n
  induction n using Nat.strongRecOn with
  | ind n ih =>
    by_cases h : n = 0
    · subst h; rw [lay_zero]; rfl
    · rw [lay_pos (by lia), val, ih _ (by lia)]
      lia
theorem lay_inj {m n : Nat} (h : lay m = lay n) : m = n := by
  have := congrArg val h
  rw [val_lay, val_lay] at this; lia

theorem pow_pos' (k : Nat) : (0 : Int) < 10000 ^ k := Int.pow_pos (by decide)
theorem val_append : ∀ a b : List Int, val (a ++ b) = val a + 10000 ^ a.length * val b
  | [], b => by simp [val]
  | x :: r, b => by
    rw [List.cons_append, val, val, val_append r b, List.length_cons, Int.pow_succ]
    grind
theorem val_snoc (a : List Int) (x : Int) : val (a ++ [x]) = val a + 10000 ^ a.length * x := by
  rw [val_append]; simp [val]
theorem val_bounds : ∀ {a : List Int}, Digs a → 0 ≤ val a ∧ val a < 10000 ^ a.length
  | [], _ => by simp [val]
  | x :: r, h => by
    have h1 := val_bounds h.tail
    have h2 := h.head
    rw [val, List.length_cons, Int.pow_succ]
    constructor
    · lia
    · have := pow_pos' r.length
      lia
theorem val_nonneg {a : List Int} (h : Digs a) : 0 ≤ val a := (val_bounds h).1

theorem trim_lay : ∀ {a : List Int}, Digs a → trim a = lay (val a).toNat
  | [], _ => by rw [val]; exact lay_zero.symm
  | x :: r, h => by
    have ih := trim_lay h.tail
    have h1 := val_nonneg h.tail
    have h2 := h.head
    rw [trim, val, ih]
    by_cases hc : lay (val r).toNat = [] ∧ x = 0
    · rw [if_pos hc]
      have := lay_nil.mp hc.1
      have e : (x + 10000 * val r).toNat = 0 := by have := hc.2; lia
      rw [e, lay_zero]
    · rw [if_neg hc]
      have hp : 0 < (x + 10000 * val r).toNat := by
        rcases Decidable.em (x = 0) with hx | hx
        · have h3 : lay (val r).toNat ≠ [] := fun h => hc ⟨h, hx⟩
          have h4 : (val r).toNat ≠ 0 := fun h => h3 (lay_nil.mpr h)
          lia
        · lia
      rw [lay_pos hp]
      congr 1
      · lia
      · congr 1; lia
theorem trim_eq {a : List Int} (h : Digs a) {n : Nat} (e : val a = n) : trim a = lay n := by
  rw [trim_lay h, e]; rfl
theorem trim_snoc_zero : ∀ a : List Int, trim (a ++ [0]) = trim a
  | [] => by simp [trim]
  | x :: r => by rw [List.cons_append, trim, trim, trim_snoc_zero r]
theorem trim_snoc_ne : ∀ (a : List Int) {x : Int}, x ≠ 0 → trim (a ++ [x]) = a ++ [x]
  | [], x, h => by simp [trim, h]
  | y :: r, x, h => by rw [List.cons_append, trim, trim_snoc_ne r h]; simp
theorem lay_of_digs {a : List Int} (h : Digs a) (hl : ∀ x, a.getLast? = some x → x ≠ 0) {n : Nat} (e : val a = n) : a = lay n := by
  rw [← trim_eq h e]
  rcases List.eq_nil_or_concat a with rfl | ⟨b, x, rfl⟩
  · rfl
  · rw [List.concat_eq_append] at hl ⊢
    rw [trim_snoc_ne]
    exact hl x (by simp)

/-- top digit -/
theorem lay_last {n : Nat} : ∀ x, (lay n).getLast? = some x → x ≠ 0 := by
  induction n using Nat.strongRecOn with
  | ind n ih =>
    intro x hx
    by_cases h : n = 0
    · subst h; rw [lay_zero] at hx; cases hx
    · rw [lay_pos (by lia)] at hx
      by_cases h2 : n / 10000 = 0
      · rw [h2, lay_zero] at hx
        simp at hx
        lia
      · have h3 := ih (n / 10000) (by lia) x
        rw [lay_pos (n := n / 10000) (by lia)] at hx h3
        rw [List.getLast?_cons_cons] at hx
        exact h3 hx
theorem lay_low : ∀ {n : Nat}, 0 < n → (10000 : Int) ^ ((lay n).length - 1) ≤ n := by
  intro n
  induction n using Nat.strongRecOn with
  | ind n ih =>
    intro h
    rw [lay_pos h]
    by_cases h2 : n / 10000 = 0
    · rw [h2, lay_zero]; simp; lia
    · have h3 := ih (n / 10000) (by lia) (by lia)
      rw [List.length_cons]
      have h4 : 0 < (lay (n / 10000)).length := List.length_pos_iff.mpr fun e => h2 (lay_nil.mp e)
      obtain ⟨k, hk⟩ := Nat.exists_eq_add_of_lt h4
      rw [hk] at h3 ⊢
      simp only [Nat.zero_add, Nat.add_sub_cancel] at h3 ⊢
      rw [Int.pow_succ]
      lia
theorem lay_high (n : Nat) : (n : Int) < 10000 ^ (lay n).length := by
  have := (val_bounds (digs_lay n)).2
  rwa [val_lay] at this
theorem pow_mono {i j : Nat} (h : i ≤ j) : (10000 : Int) ^ i ≤ 10000 ^ j := by
  obtain ⟨d, rfl⟩ := Nat.exists_eq_add_of_le h
  rw [Int.pow_add]
  have h1 := pow_pos' i
  have h2 := pow_pos' d
  have : (10000 : Int) ^ i * 1 ≤ 10000 ^ i * 10000 ^ d := Int.mul_le_mul_of_nonneg_left (by lia) (by lia)
  lia
theorem lt_of_len {m n : Nat} (h : (lay m).length < (lay n).length) : m < n := by
  have h1 := lay_high m
  have hn : 0 < n := by
    rcases Nat.eq_zero_or_pos n with rfl | h'
    · rw [lay_zero] at h; simp at h
    · exact h'
  have h2 := lay_low hn
  have h3 := pow_mono (i := (lay m).length) (j := (lay n).length - 1) (by lia)
  lia
theorem lay_of_big {a : List Int} (h : Digs a) (hl : a ≠ [] → (10000 : Int) ^ (a.length - 1) ≤ val a) {n : Nat} (e : val a = n) : a = lay n := by
  refine lay_of_digs h (fun x hx => ?_) e
  rcases List.eq_nil_or_concat a with rfl | ⟨b, y, rfl⟩
  · cases hx
  · rw [List.concat_eq_append] at *
    simp at hx
    subst hx
    rintro rfl
    have h1 := hl (by simp)
    rw [val_snoc] at h1
    have h2 := (val_bounds (a := b) (fun z hz => h z (List.mem_append_left _ hz))).2
    simp at h1
    lia
theorem len_le {n k : Nat} (h : n < 10000 ^ k) : (lay n).length ≤ k := by
  apply Decidable.byContradiction
  intro hk
  have hn : 0 < n := by
    rcases Nat.eq_zero_or_pos n with rfl | h'
    · rw [lay_zero] at hk; simp at hk
    · exact h'
  have h2 := lay_low hn
  have h3 := pow_mono (i := k) (j := (lay n).length - 1) (by lia)
  have h4 : ((10000 ^ k : Nat) : Int) = (10000 : Int) ^ k := by rw [Int.natCast_pow]; rfl
  lia

theorem take_succ' {a : List Int} {k : Nat} (h : k < a.length) : a.take (k + 1) = a.take k ++ [a[k]] := by simp
theorem val_take_succ {a : List Int} {k : Nat} (h : k < a.length) : val (a.take (k + 1)) = val (a.take k) + 10000 ^ k * a[k] := by
  rw [take_succ' h, val_snoc, List.length_take, Nat.min_eq_left (by lia)]
theorem val_take_over {a : List Int} {k : Nat} (h : a.length ≤ k) : val (a.take k) = val a := by rw [List.take_of_length_le h]
theorem val_split (a : List Int) (k : Nat) (h : k ≤ a.length) : val a = val (a.take k) + 10000 ^ k * val (a.drop k) := by
  conv => lhs; rw [← List.take_append_drop k a]
  rw [val_append, List.length_take, Nat.min_eq_left h]
theorem val_drop {a : List Int} {k : Nat} (h : k < a.length) : val (a.drop k) = a[k] + 10000 * val (a.drop (k + 1)) := by
  rw [List.drop_eq_getElem_cons h, val]

/-- the digit at a place, 0 behind the end -/
noncomputable def dg (a : List Int) (k : Nat) : Int := a[k]?.getD 0
theorem dg_in {a : List Int} {k : Nat} (h : k < a.length) : dg a k = a[k] := by simp [dg, h]
theorem dg_out {a : List Int} {k : Nat} (h : ¬ k < a.length) : dg a k = 0 := by simp [dg, Nat.le_of_not_lt h]
theorem dg_bounds {a : List Int} (h : Digs a) (k : Nat) : 0 ≤ dg a k ∧ dg a k < 10000 := by
  by_cases hk : k < a.length
  · rw [dg_in hk]; exact h.get hk
  · rw [dg_out hk]; lia
theorem val_take_dg (a : List Int) (k : Nat) : val (a.take (k + 1)) = val (a.take k) + 10000 ^ k * dg a k := by
  by_cases hk : k < a.length
  · rw [dg_in hk, val_take_succ hk]
  · rw [dg_out hk, val_take_over (by lia), val_take_over (by lia)]; lia
theorem cmp_at {a b : List Int} (ha : Digs a) (hb : Digs b) {i : Nat} (hia : i < a.length) (hib : i < b.length) (hd : a.drop (i + 1) = b.drop (i + 1)) (hlt : a[i] < b[i]) : val a < val b := by
  rw [val_split a i (by lia), val_split b i (by lia), val_drop hia, val_drop hib, hd]
  have h1 := val_bounds (ha.take i)
  have h2 := val_bounds (hb.take i)
  rw [List.length_take, Nat.min_eq_left (by lia)] at h1
  have hP := pow_pos' i
  have h3 : (10000 : Int) ^ i * (a[i] + 1) ≤ 10000 ^ i * b[i] := Int.mul_le_mul_of_nonneg_left (by lia) (by lia)
  rw [Int.mul_add] at h3 ⊢
  rw [Int.mul_add]
  lia

end Lim

/-! Plain: a step kit for the weakest preconditions; loops. -/
namespace Lim
open PySem

noncomputable def Stp (Q : Post) (N : List L → Prop) : Post := fun fl σ' => match fl with
  | .next => N σ'
  | .cont => N σ'
  | .ret d => Q (.ret d) σ'
  | .exc c => Q (.exc c) σ'
noncomputable def retQ (d : D) : Post := fun fl _ => fl = .ret d
noncomputable def excQ (c : Exc) : Post := fun fl _ => fl = .exc c
section
variable (F : Nat → List D → Res D) (G : Nat → Option D)
/-- what comes behind a statement -/
noncomputable def thenK (r : List S) (Q : Post) : Post := fun fl σ' => match fl with
  | .next => wpSs F G r σ' Q
  | .cont => Q .cont σ'
  | .ret d => Q (.ret d) σ'
  | .exc c => Q (.exc c) σ'
noncomputable def tryK (c : Exc) (h : List S) (Q : Post) : Post := fun fl σ' => match fl with
  | .exc x => x = c ∧ wpSs F G h σ' Q
  | .next => Q .next σ'
  | .cont => Q .cont σ'
  | .ret d => Q (.ret d) σ'
noncomputable def forS (b : List S) (i : Nat) (items : List D) (σ : List L) (Q : Post) : Prop := forWp (fun σ Q => wpSs F G b σ Q) i items σ Q
noncomputable def whileS (c : E) (b : List S) (σ : List L) (Q : Post) : Prop := whileWp (fun σ => evalE F G σ c) (fun σ Q => wpSs F G b σ Q) σ Q
noncomputable def kX (Q : Post) (σ : List L) : Exc → Prop := fun c => Q (.exc c) σ
noncomputable def kRet (Q : Post) (σ : List L) : D → Prop := fun d => Q (.ret d) σ
noncomputable def kA (i : Nat) (r : List S) (σ : List L) (Q : Post) : D → Prop := fun d => wpSs F G r (σ.set i (.val d)) Q
noncomputable def kO (i : Nat) (r : List S) (σ : List L) (Q : Post) : D → Prop := fun d => atList d fun x => wpSs F G r (σ.set i (.own x)) Q
noncomputable def kAug (i : Nat) (op : Bop) (r : List S) (σ : List L) (Q : Post) (a : Int) : D → Prop := fun d => atInt d fun b => augK op (wpSs F G r (σ.set i (.val (.int (a + b)))) Q) (wpSs F G r (σ.set i (.val (.int (a - b)))) Q)
noncomputable def kAugL (i : Nat) (op : Bop) (e : E) (r : List S) (σ : List L) (Q : Post) : Option L → Prop := fun l => onVal l fun x => atInt x fun a => (evalE F G σ e).wp (kAug F G i op r σ Q a) (kX Q σ)
noncomputable def kOwn (i : Nat) (r : List S) (σ : List L) (Q : Post) : Option D → Prop := fun x => isOk x fun d => wpSs F G r (σ.set i (.own d)) Q
noncomputable def kApp (i : Nat) (r : List S) (σ : List L) (Q : Post) (x : D) : D → Prop := fun d => kOwn F G i r σ Q (appendD x d)
noncomputable def kAppL (i : Nat) (e : E) (r : List S) (σ : List L) (Q : Post) : Option L → Prop := fun l => onOwn l fun x => (evalE F G σ e).wp (kApp F G i r σ Q x) (kX Q σ)
noncomputable def kSet2 (i : Nat) (r : List S) (σ : List L) (Q : Post) (x d : D) : D → Prop := fun kd => atInt kd fun j => kOwn F G i r σ Q (setD x j d)
noncomputable def kSet (i : Nat) (k : E) (r : List S) (σ : List L) (Q : Post) (x : D) : D → Prop := fun d => (evalE F G σ k).wp (kSet2 F G i r σ Q x d) (kX Q σ)
noncomputable def kSetL (i : Nat) (k e : E) (r : List S) (σ : List L) (Q : Post) : Option L → Prop := fun l => onOwn l fun x => (evalE F G σ e).wp (kSet F G i k r σ Q x) (kX Q σ)
noncomputable def kGo (r : List S) (Q : Post) : Option (List L) → Prop := fun x => isOk x fun σ' => wpSs F G r σ' Q
noncomputable def kUnp (is : List Nat) (r : List S) (σ : List L) (Q : Post) : D → Prop := fun d => atTup d fun ds => kGo F G r Q (unpackSet is ds σ)
noncomputable def kFrz (i : Nat) (r : List S) (σ : List L) (Q : Post) : Option L → Prop := fun l => onFrz l fun d => wpSs F G r (σ.set i (.val d)) Q
noncomputable def kIf (a b r : List S) (σ : List L) (Q : Post) : D → Prop := fun d => atBool d (wpSs F G a σ (thenK F G r Q)) (wpSs F G b σ (thenK F G r Q))
noncomputable def kWh (b : List S) (σ : List L) (Q : Post) (N : List L → Prop) : D → Prop := fun d => atBool d (wpSs F G b σ (Stp Q N)) (Q .next σ)
noncomputable def kFor (b : List S) (i : Nat) (r : List S) (σ : List L) (Q : Post) : List D → Prop := fun items => forS F G b i items σ (thenK F G r Q)
noncomputable def kEx (r : List S) (σ : List L) (Q : Post) : D → Prop := fun _ => wpSs F G r σ Q
end

section
variable {F : Nat → List D → Res D} {G : Nat → Option D} {σ : List L} {Q : Post} {r : List S}
@[simp] theorem ss_nil : wpSs F G [] σ Q = Q .next σ := rfl
@[simp] theorem ss_assign {i : Nat} {e : E} : wpSs F G (.assign i e :: r) σ Q = (evalE F G σ e).wp (kA F G i r σ Q) (kX Q σ) := rfl
@[simp] theorem ss_assignOwn {i : Nat} {e : E} : wpSs F G (.assignOwn i e :: r) σ Q = (evalE F G σ e).wp (kO F G i r σ Q) (kX Q σ) := rfl
@[simp] theorem ss_aug {i : Nat} {op : Bop} {e : E} : wpSs F G (.aug i op e :: r) σ Q = kAugL F G i op e r σ Q (σ[i]?) := rfl
@[simp] theorem ss_append {i : Nat} {e : E} : wpSs F G (.append i e :: r) σ Q = kAppL F G i e r σ Q (σ[i]?) := rfl
@[simp] theorem ss_setitem {i : Nat} {k e : E} : wpSs F G (.setitem i k e :: r) σ Q = kSetL F G i k e r σ Q (σ[i]?) := rfl
@[simp] theorem ss_unpack {is : List Nat} {e : E} : wpSs F G (.unpack is e :: r) σ Q = (evalE F G σ e).wp (kUnp F G is r σ Q) (kX Q σ) := rfl
@[simp] theorem ss_freeze {i : Nat} : wpSs F G (.freeze i :: r) σ Q = kFrz F G i r σ Q (σ[i]?) := rfl
@[simp] theorem ss_ite {c : E} {a b : List S} : wpSs F G (.ite c a b :: r) σ Q = (evalE F G σ c).wp (kIf F G a b r σ Q) (kX Q σ) := rfl
@[simp] theorem ss_while {c : E} {b : List S} : wpSs F G (.while c b :: r) σ Q = whileS F G c b σ (thenK F G r Q) := rfl
@[simp] theorem ss_for {i : Nat} {it : It} {b : List S} : wpSs F G (.for i it b :: r) σ Q = (evalIt F G σ it).wp (kFor F G b i r σ Q) (kX Q σ) := rfl
@[simp] theorem ss_ret {e : E} : wpSs F G (.ret e :: r) σ Q = (evalE F G σ e).wp (kRet Q σ) (kX Q σ) := rfl
@[simp] theorem ss_raise {c : Exc} : wpSs F G (.raise c :: r) σ Q = Q (.exc c) σ := rfl
@[simp] theorem ss_expr {e : E} : wpSs F G (.expr e :: r) σ Q = (evalE F G σ e).wp (kEx F G r σ Q) (kX Q σ) := rfl
@[simp] theorem ss_cont : wpSs F G (.cont :: r) σ Q = Q .cont σ := rfl
@[simp] theorem ss_try {b h : List S} {c : Exc} : wpSs F G (.try b c h :: r) σ Q = wpSs F G b σ (tryK F G c h (thenK F G r Q)) := rfl

@[simp] theorem thenK_next : thenK F G r Q .next σ = wpSs F G r σ Q := rfl
@[simp] theorem thenK_cont : thenK F G r Q .cont σ = Q .cont σ := rfl
@[simp] theorem thenK_ret {d : D} : thenK F G r Q (.ret d) σ = Q (.ret d) σ := rfl
@[simp] theorem thenK_exc {c : Exc} : thenK F G r Q (.exc c) σ = Q (.exc c) σ := rfl
@[simp] theorem tryK_next {h : List S} {c : Exc} : tryK F G c h Q .next σ = Q .next σ := rfl
@[simp] theorem tryK_cont {h : List S} {c : Exc} : tryK F G c h Q .cont σ = Q .cont σ := rfl
@[simp] theorem tryK_ret {h : List S} {c : Exc} {d : D} : tryK F G c h Q (.ret d) σ = Q (.ret d) σ := rfl
@[simp] theorem tryK_exc {h : List S} {c : Exc} : tryK F G c h Q (.exc c) σ = wpSs F G h σ Q := by simp only [tryK, true_and]
variable {N : List L → Prop}
@[simp] theorem Stp_next : Stp Q N .next σ = N σ := rfl
@[simp] theorem Stp_cont : Stp Q N .cont σ = N σ := rfl
@[simp] theorem Stp_ret {d : D} : Stp Q N (.ret d) σ = Q (.ret d) σ := rfl
@[simp] theorem Stp_exc {c : Exc} : Stp Q N (.exc c) σ = Q (.exc c) σ := rfl
@[simp] theorem retQ_ret {d d' : D} : retQ d (.ret d') σ = (d' = d) := by simp [retQ]
@[simp] theorem excQ_exc {d d' : Exc} : excQ d (.exc d') σ = (d' = d) := by simp [excQ]
@[simp] theorem kX_at {c : Exc} : kX Q σ c = Q (.exc c) σ := rfl
@[simp] theorem kRet_at {d : D} : kRet Q σ d = Q (.ret d) σ := rfl
@[simp] theorem kA_at {i : Nat} {d : D} : kA F G i r σ Q d = wpSs F G r (σ.set i (.val d)) Q := rfl
@[simp] theorem kO_ilist {i : Nat} {d : List Int} : kO F G i r σ Q (.ilist d) = wpSs F G r (σ.set i (.own (.ilist d))) Q := rfl
@[simp] theorem kO_list {i : Nat} {d : List D} : kO F G i r σ Q (.list d) = wpSs F G r (σ.set i (.own (.list d))) Q := rfl
@[simp] theorem kAugL_at {i : Nat} {op : Bop} {e : E} {a : Int} : kAugL F G i op e r σ Q (some (.val (.int a))) = (evalE F G σ e).wp (kAug F G i op r σ Q a) (kX Q σ) := rfl
@[simp] theorem kAug_add {i : Nat} {a b : Int} : kAug F G i .add r σ Q a (.int b) = wpSs F G r (σ.set i (.val (.int (a + b)))) Q := rfl
@[simp] theorem kAug_sub {i : Nat} {a b : Int} : kAug F G i .sub r σ Q a (.int b) = wpSs F G r (σ.set i (.val (.int (a - b)))) Q := rfl
@[simp] theorem kOwn_at {i : Nat} {d : D} : kOwn F G i r σ Q (some d) = wpSs F G r (σ.set i (.own d)) Q := rfl
@[simp] theorem kAppL_at {i : Nat} {e : E} {x : D} : kAppL F G i e r σ Q (some (.own x)) = (evalE F G σ e).wp (kApp F G i r σ Q x) (kX Q σ) := rfl
@[simp] theorem kApp_at {i : Nat} {x d : D} : kApp F G i r σ Q x d = kOwn F G i r σ Q (appendD x d) := rfl
@[simp] theorem kSetL_at {i : Nat} {k e : E} {x : D} : kSetL F G i k e r σ Q (some (.own x)) = (evalE F G σ e).wp (kSet F G i k r σ Q x) (kX Q σ) := rfl
@[simp] theorem kSet_at {i : Nat} {k : E} {x d : D} : kSet F G i k r σ Q x d = (evalE F G σ k).wp (kSet2 F G i r σ Q x d) (kX Q σ) := rfl
@[simp] theorem kSet2_at {i : Nat} {x d : D} {j : Int} : kSet2 F G i r σ Q x d (.int j) = kOwn F G i r σ Q (setD x j d) := rfl
@[simp] theorem kGo_at {σ' : List L} : kGo F G r Q (some σ') = wpSs F G r σ' Q := rfl
@[simp] theorem kUnp_at {is : List Nat} {ds : List D} : kUnp F G is r σ Q (.tup ds) = kGo F G r Q (unpackSet is ds σ) := rfl
@[simp] theorem kFrz_own {i : Nat} {d : D} : kFrz F G i r σ Q (some (.own d)) = wpSs F G r (σ.set i (.val d)) Q := rfl
@[simp] theorem kFrz_val {i : Nat} {d : D} : kFrz F G i r σ Q (some (.val d)) = wpSs F G r (σ.set i (.val d)) Q := rfl
@[simp] theorem kIf_true {a b : List S} : kIf F G a b r σ Q (.bool true) = wpSs F G a σ (thenK F G r Q) := rfl
@[simp] theorem kIf_false {a b : List S} : kIf F G a b r σ Q (.bool false) = wpSs F G b σ (thenK F G r Q) := rfl
theorem kIf_dec {a b : List S} {p : Prop} [Decidable p] (h1 : p → wpSs F G a σ (thenK F G r Q)) (h2 : ¬p → wpSs F G b σ (thenK F G r Q)) : kIf F G a b r σ Q (.bool (decide p)) := by
  by_cases h : p
  · rw [decide_eq_true h]; exact h1 h
  · rw [decide_eq_false h]; exact h2 h
theorem kIf_ndec {a b : List S} {p : Prop} [Decidable p] (h1 : ¬p → wpSs F G a σ (thenK F G r Q)) (h2 : p → wpSs F G b σ (thenK F G r Q)) : kIf F G a b r σ Q (.bool (!decide p)) := by
  by_cases h : p
  · rw [decide_eq_true h]; exact h2 h
  · rw [decide_eq_false h]; exact h1 h
@[simp] theorem kWh_true {b : List S} : kWh F G b σ Q N (.bool true) = wpSs F G b σ (Stp Q N) := rfl
@[simp] theorem kWh_false {b : List S} : kWh F G b σ Q N (.bool false) = Q .next σ := rfl
theorem kWh_dec {b : List S} {p : Prop} [Decidable p] (h1 : p → wpSs F G b σ (Stp Q N)) (h2 : ¬p → Q .next σ) : kWh F G b σ Q N (.bool (decide p)) := by
  by_cases h : p
  · rw [decide_eq_true h]; exact h1 h
  · rw [decide_eq_false h]; exact h2 h
@[simp] theorem kFor_at {b : List S} {i : Nat} {items : List D} : kFor F G b i r σ Q items = forS F G b i items σ (thenK F G r Q) := rfl
@[simp] theorem kEx_at {d : D} : kEx F G r σ Q d = wpSs F G r σ Q := rfl
end
@[simp] theorem bind_ok {α β : Type} {a : α} {f : α → Res β} : (Res.ok a).bind f = f a := rfl
@[simp] theorem bind_exc {α β : Type} {c : Exc} {f : α → Res β} : (Res.exc c).bind f = .exc c := rfl
@[simp] theorem wp_ok {α : Type} {a : α} {Q : α → Prop} {X : Exc → Prop} : (Res.ok a).wp Q X = Q a := rfl
@[simp] theorem wp_exc {α : Type} {c : Exc} {Q : α → Prop} {X : Exc → Prop} : (Res.exc c).wp Q X = X c := rfl
@[simp] theorem asBool_ok {b : Bool} {f : Bool → Res D} : (Res.ok (.bool b)).asBool f = f b := rfl
@[simp] theorem asBool_exc {c : Exc} {f : Bool → Res D} : (Res.exc c).asBool f = .exc c := rfl
@[simp] theorem asInt_ok {b : Int} {f : Int → Res (List D)} : asInt (Res.ok (.int b)) f = f b := rfl
theorem eqv_int {a b : Int} : PyData.eqv (toPy (.int a)) (toPy (.int b)) = decide (a = b) := rfl
-- the operations at data
@[simp] theorem b_add {a b : Int} : binop .add (.int a) (.int b) = .ok (.int (a + b)) := rfl
@[simp] theorem b_sub {a b : Int} : binop .sub (.int a) (.int b) = .ok (.int (a - b)) := rfl
theorem b_mul {a b : Int} (h : a.natAbs ≤ FAC ∧ b.natAbs ≤ FAC) : binop .mul (.int a) (.int b) = .ok (.int (a * b)) := if_pos h
theorem b_mod {a b : Int} (h : b ≠ 0) : binop .mod (.int a) (.int b) = .ok (.int (a.fmod b)) := if_pos h
theorem b_fdiv {a b : Int} (h : b ≠ 0 ∧ b.natAbs ≤ FAC) : binop .fdiv (.int a) (.int b) = .ok (.int (a.fdiv b)) := if_pos h
@[simp] theorem b_modp {a b : Int} (h : 0 < b) : binop .mod (.int a) (.int b) = .ok (.int (a % b)) := by rw [b_mod (by lia), Int.fmod_eq_emod_of_nonneg _ (by lia)]
@[simp] theorem b_divp {a b : Int} (h : 0 < b) (h2 : b ≤ 1000000000000000000000000000000000000000000000000000000000000) : binop .fdiv (.int a) (.int b) = .ok (.int (a / b)) := by
  rw [b_fdiv ⟨by lia, by simp only [FAC]; lia⟩, Int.fdiv_eq_ediv_of_nonneg _ (by lia)]
theorem b_pow {a b : Int} (h : 0 ≤ b ∧ b ≤ 1000 ∧ a.natAbs < 18446744073709551616) : binop .pow (.int a) (.int b) = .ok (.int (a ^ b.toNat)) := if_pos h
theorem b_shl {a b : Int} (h : 0 ≤ b ∧ b ≤ 1000 ∧ a.natAbs < 18446744073709551616) : binop .shl (.int a) (.int b) = .ok (.int (a * 2 ^ b.toNat)) := if_pos h
theorem b_cat {a b : List Int} (h : a.length + b.length ≤ LIM) : binop .add (.ilist a) (.ilist b) = .ok (.ilist (a ++ b)) := if_pos h
theorem b_rep {a : List Int} {k : Int} (h : 0 ≤ k ∧ k ≤ LIM ∧ a.length * k.toNat ≤ LIM) : binop .mul (.ilist a) (.int k) = .ok (.ilist (rep a k.toNat)) := if_pos h
@[simp] theorem c_lt {a b : Int} : cmpop .lt (.int a) (.int b) = .ok (.bool (decide (a < b))) := rfl
@[simp] theorem c_le {a b : Int} : cmpop .le (.int a) (.int b) = .ok (.bool (decide (a ≤ b))) := rfl
@[simp] theorem c_gt {a b : Int} : cmpop .gt (.int a) (.int b) = .ok (.bool (decide (b < a))) := rfl
@[simp] theorem c_ge {a b : Int} : cmpop .ge (.int a) (.int b) = .ok (.bool (decide (b ≤ a))) := rfl
@[simp] theorem c_eq {a b : Int} : cmpop .eq (.int a) (.int b) = .ok (.bool (decide (a = b))) := rfl
@[simp] theorem c_ne {a b : Int} : cmpop .ne (.int a) (.int b) = .ok (.bool (!decide (a = b))) := rfl
@[simp] theorem g_int {ns : List Int} {k : Nat} (h : k < ns.length) : getitem (.ilist ns) (.int k) = .ok (.int ns[k]) := by
  show (if (0 : Int) ≤ (k : Int) then optR ns[((k : Nat) : Int).toNat]? D.int else .stuck) = _
  rw [if_pos (Int.natCast_nonneg k), Int.toNat_natCast, List.getElem?_eq_getElem h]
  rfl
theorem g_tup {ns : List D} {k : Nat} {d : D} (h : ns[k]? = some d) : getitem (.tup ns) (.int k) = .ok d := by
  show (if (0 : Int) ≤ (k : Int) then optR ns[((k : Nat) : Int).toNat]? id else .stuck) = _
  rw [if_pos (Int.natCast_nonneg k), Int.toNat_natCast, h]
  rfl
@[simp] theorem g_tup0 {a : D} {r : List D} : getitem (.tup (a :: r)) (.int 0) = .ok a := rfl
@[simp] theorem g_tup1 {a b : D} {r : List D} : getitem (.tup (a :: b :: r)) (.int 1) = .ok b := rfl
@[simp] theorem g_tup2 {x0 x1 x2 : D} {r : List D} : getitem (.tup (x0 :: x1 :: x2 :: r)) (.int 2) = .ok x2 := rfl
@[simp] theorem g_tup3 {x0 x1 x2 x3 : D} {r : List D} : getitem (.tup (x0 :: x1 :: x2 :: x3 :: r)) (.int 3) = .ok x3 := rfl
@[simp] theorem g_tup4 {x0 x1 x2 x3 x4 : D} {r : List D} : getitem (.tup (x0 :: x1 :: x2 :: x3 :: x4 :: r)) (.int 4) = .ok x4 := rfl
@[simp] theorem g_tup5 {x0 x1 x2 x3 x4 x5 : D} {r : List D} : getitem (.tup (x0 :: x1 :: x2 :: x3 :: x4 :: x5 :: r)) (.int 5) = .ok x5 := rfl
@[simp] theorem g_tup6 {x0 x1 x2 x3 x4 x5 x6 : D} {r : List D} : getitem (.tup (x0 :: x1 :: x2 :: x3 :: x4 :: x5 :: x6 :: r)) (.int 6) = .ok x6 := rfl
@[simp] theorem g_tup7 {x0 x1 x2 x3 x4 x5 x6 x7 : D} {r : List D} : getitem (.tup (x0 :: x1 :: x2 :: x3 :: x4 :: x5 :: x6 :: x7 :: r)) (.int 7) = .ok x7 := rfl
@[simp] theorem g_tup8 {x0 x1 x2 x3 x4 x5 x6 x7 x8 : D} {r : List D} : getitem (.tup (x0 :: x1 :: x2 :: x3 :: x4 :: x5 :: x6 :: x7 :: x8 :: r)) (.int 8) = .ok x8 := rfl
@[simp] theorem g_tup9 {x0 x1 x2 x3 x4 x5 x6 x7 x8 x9 : D} {r : List D} : getitem (.tup (x0 :: x1 :: x2 :: x3 :: x4 :: x5 :: x6 :: x7 :: x8 :: x9 :: r)) (.int 9) = .ok x9 := rfl
@[simp] theorem l_int {ns : List Int} : lenOf (.ilist ns) = .ok (.int ns.length) := rfl
theorem a_int {ns : List Int} {i : Int} (h : ns.length ≤ LIM) : appendD (.ilist ns) (.int i) = some (.ilist (ns ++ [i])) := if_pos h
theorem s_int {ns : List Int} {k : Nat} {i : Int} (h : k < ns.length) : setD (.ilist ns) k (.int i) = some (.ilist (ns.set k i)) := by
  refine (if_pos ⟨by lia, by lia⟩).trans ?_
  rw [Int.toNat_natCast]
@[simp] theorem p_int {i : Int} : partOf (.int i) = .ok (some i) := rfl
@[simp] theorem sl_int {ns : List Int} {lo hi : Option Int} : sliceD (.ilist ns) lo hi = .ok (.ilist (sliceL ns lo hi)) := rfl
@[simp] theorem mk_nil : mkList [] = .ilist [] := rfl
@[simp] theorem mk_int {i : Int} : mkList [.int i] = .ilist [i] := rfl
@[simp] theorem sliceL_all {α : Type} {a : List α} : sliceL a none none = a := by simp [sliceL]
@[simp] theorem var_val {d : D} : varD (some (.val d)) = .ok d := rfl
@[simp] theorem glob_some {d : D} : globD (some d) = .ok d := rfl
@[simp] theorem held_val {d : D} : heldD (some (.val d)) = .ok d := rfl
@[simp] theorem held_own {d : D} : heldD (some (.own d)) = .ok d := rfl
@[simp] theorem neg_int {i : Int} : negD (.int i) = .ok (.int (-i)) := rfl
@[simp] theorem ty_int {i : Int} : tyD (.int i) = .ok (.bool true) := rfl
@[simp] theorem max_int {i j : Int} : maxD (.int i) (.int j) = .ok (.int (if i < j then j else i)) := rfl
@[simp] theorem abs_int {i : Int} : absD (.int i) = .ok (.int (if i < 0 then -i else i)) := rfl
@[simp] theorem seq_ilist {ns : List Int} : seqD (.ilist ns) = .ok (ns.map .int) := rfl
@[simp] theorem seq_list {ns : List D} : seqD (.list ns) = .ok ns := rfl
@[simp] theorem seq_tup {ns : List D} : seqD (.tup ns) = .ok ns := rfl

section
variable {F : Nat → List D → Res D} {G : Nat → Option D} {σ : List L} {a b c : E} {i k f g : Nat}
@[simp] theorem ev_var : evalE F G σ (.var i) = varD (σ[i]?) := rfl
@[simp] theorem ev_glob : evalE F G σ (.glob g) = globD (G g) := rfl
@[simp] theorem ev_none : evalE F G σ .none = .ok .none := rfl
@[simp] theorem ev_bool {x : Bool} : evalE F G σ (.bool x) = .ok (.bool x) := rfl
@[simp] theorem ev_int {x : Int} : evalE F G σ (.int x) = .ok (.int x) := rfl
@[simp] theorem ev_str {x : Str} : evalE F G σ (.str x) = .ok (.str x) := rfl
@[simp] theorem ev_bin {op : Bop} : evalE F G σ (.bin op a b) = (evalE F G σ a).bind fun x => (evalE F G σ b).bind fun y => binop op x y := rfl
@[simp] theorem ev_neg : evalE F G σ (.neg a) = (evalE F G σ a).bind negD := rfl
@[simp] theorem ev_not : evalE F G σ (.not a) = (evalE F G σ a).asBool fun b => .ok (.bool !b) := rfl
@[simp] theorem ev_cmp {op : Cop} : evalE F G σ (.cmp op a b) = (evalE F G σ a).bind fun x => (evalE F G σ b).bind fun y => cmpop op x y := rfl
@[simp] theorem ev_isInt : evalE F G σ (.isInt a) = (evalE F G σ a).bind tyD := rfl
@[simp] theorem ev_and : evalE F G σ (.and a b) = (evalE F G σ a).asBool fun x => if x then (evalE F G σ b).asBool fun y => .ok (.bool y) else .ok (.bool false) := rfl
@[simp] theorem ev_or3 : evalE F G σ (.or3 a b c) = (evalE F G σ a).asBool fun x => if x then .ok (.bool true) else (evalE F G σ b).asBool fun y => if y then .ok (.bool true) else (evalE F G σ c).asBool fun z => .ok (.bool z) := rfl
@[simp] theorem ev_ite : evalE F G σ (.ite c a b) = (evalE F G σ c).asBool fun x => if x then evalE F G σ a else evalE F G σ b := rfl
@[simp] theorem ev_item : evalE F G σ (.item a b) = (evalE F G σ a).bind fun x => (evalE F G σ b).bind fun y => getitem x y := rfl
@[simp] theorem ev_itemV : evalE F G σ (.itemV k b) = (heldD (σ[k]?)).bind fun x => (evalE F G σ b).bind fun y => getitem x y := rfl
@[simp] theorem ev_slice {lo hi : Option E} : evalE F G σ (.slice a lo hi) = (evalE F G σ a).bind fun x => (evalO F G σ lo).bind fun l => (evalO F G σ hi).bind fun h => sliceD x l h := rfl
@[simp] theorem ev_len : evalE F G σ (.len a) = (evalE F G σ a).bind lenOf := rfl
@[simp] theorem ev_lenV : evalE F G σ (.lenV k) = (heldD (σ[k]?)).bind lenOf := rfl
@[simp] theorem ev_max : evalE F G σ (.max a b) = (evalE F G σ a).bind fun x => (evalE F G σ b).bind fun y => maxD x y := rfl
@[simp] theorem ev_abs : evalE F G σ (.abs a) = (evalE F G σ a).bind absD := rfl
@[simp] theorem ev_call {args : List E} : evalE F G σ (.call f args) = (evalEs F G σ args).bind fun ds => F f ds := rfl
@[simp] theorem ev_tup {args : List E} : evalE F G σ (.tup args) = (evalEs F G σ args).bind fun ds => .ok (.tup ds) := rfl
@[simp] theorem ev_list {args : List E} : evalE F G σ (.list args) = (evalEs F G σ args).bind fun ds => .ok (mkList ds) := rfl
@[simp] theorem ev_onone : evalO F G σ none = .ok none := rfl
@[simp] theorem ev_osome : evalO F G σ (some a) = (evalE F G σ a).bind partOf := rfl
@[simp] theorem ev_nil : evalEs F G σ [] = .ok [] := rfl
@[simp] theorem ev_cons {r : List E} : evalEs F G σ (a :: r) = (evalE F G σ a).bind fun d => (evalEs F G σ r).bind fun ds => .ok (d :: ds) := rfl
@[simp] theorem ev_r1 : evalIt F G σ (.range1 a) = asInt (evalE F G σ a) fun n => if n.natAbs ≤ LIM then .ok (rangeD 0 n.toNat 1) else .stuck := rfl
@[simp] theorem ev_r3 {st : Int} : evalIt F G σ (.range3 a b st) = asInt (evalE F G σ a) fun m => asInt (evalE F G σ b) fun n =>
      if st = -1 ∧ m.natAbs ≤ LIM ∧ n.natAbs ≤ LIM then .ok (rangeD m (m - n).toNat (-1)) else .stuck := rfl
@[simp] theorem ev_seq : evalIt F G σ (.seq a) = (evalE F G σ a).bind seqD := rfl
@[simp] theorem up_nil : unpackSet [] [] σ = some σ := rfl
@[simp] theorem up_cons {is : List Nat} {d : D} {ds : List D} : unpackSet (i :: is) (d :: ds) σ = unpackSet is ds (σ.set i (.val d)) := rfl
end
theorem eqv_ints : ∀ d : List Int, PyData.eqvAll (d.map .int) (d.map .int) = true
  | [] => rfl
  | x :: r => by
    show ((x == x) && PyData.eqvAll (r.map .int) (r.map .int)) = true
    rw [eqv_ints r, beq_self_eq_true]; rfl
mutual
theorem eqv_refl : ∀ d : D, PyData.eqv (toPy d) (toPy d) = true
  | .none => rfl
  | .bool b => show (b == b) = true from beq_self_eq_true b
  | .int b => show (b == b) = true from beq_self_eq_true b
  | .str b => show (b == b) = true from beq_self_eq_true b
  | .ilist b => eqv_ints b
  | .list b => eqvs_refl b
  | .tup b => eqvs_refl b
theorem eqvs_refl : ∀ d : List D, PyData.eqvAll (toPys d) (toPys d) = true
  | [] => rfl
  | x :: r => by
    show (PyData.eqv (toPy x) (toPy x) && PyData.eqvAll (toPys r) (toPys r)) = true
    rw [eqv_refl x, eqvs_refl r]; rfl
end
theorem eqv_bool {a b : Bool} : PyData.eqv (toPy (.bool a)) (toPy (.bool b)) = (a == b) := by cases a <;> cases b <;> rfl
@[simp] theorem c_ne_bool {a b : Bool} : cmpop .ne (.bool a) (.bool b) = .ok (.bool (!(a == b))) := congrArg (fun x => Res.ok (D.bool (!x))) eqv_bool
theorem c_ne_same {d : D} (h : dep d ≤ 20) : cmpop .ne d d = .ok (.bool false) := (if_pos h).trans (by rw [eqv_refl]; rfl)
theorem c_eq_same {d : D} (h : dep d ≤ 20) : cmpop .eq d d = .ok (.bool true) := (if_pos h).trans (by rw [eqv_refl])
/-! loops -/
theorem forGen {body : List L → Post → Prop} {i : Nat} {Q : Post} (I : List D → List L → Prop) (step : ∀ v r σ, I (v :: r) σ → body (σ.set i (.val v)) (Stp Q (I r))) (hend : ∀ σ, I [] σ → Q .next σ)
    (mono : ∀ σ Q Q', (∀ fl σ', Q fl σ' → Q' fl σ') → body σ Q → body σ Q') : ∀ (items : List D) (σ : List L), I items σ → forWp body i items σ Q
  | [], σ, h => hend σ h
  | v :: r, σ, h => by
    show body _ _
    refine mono _ _ _ (fun fl σ' y => ?_) (step v r σ h)
    cases fl with
    | next => exact forGen I step hend mono r σ' y
    | cont => exact forGen I step hend mono r σ' y
    | ret d => exact y
    | exc c => exact y
theorem rangeD_getElem {a : Int} {n : Nat} {st : Int} {k : Nat} (h : k < n) : (rangeD a n st)[k]'(by simpa [rangeD] using h) = .int (a + k * st) := by simp [rangeD]
section
variable {F : Nat → List D → Res D} {G : Nat → Option D}
theorem forIdx {b : List S} {i : Nat} {Q : Post} {items : List D} {σ : List L} (I : Nat → List L → Prop) (h0 : I 0 σ) (step : ∀ k σ (h : k < items.length), I k σ → wpSs F G b (σ.set i (.val items[k])) (Stp Q (I (k + 1)))) (hend : ∀ σ, I items.length σ → Q .next σ) :
    forS F G b i items σ Q := by
  refine forGen (body := fun σ Q => wpSs F G b σ Q) (fun r σ => ∃ k, k ≤ items.length ∧ r = items.drop k ∧ I k σ) ?_ ?_ (fun σ Q Q' h x => wpSs_mono (sts := b) (σ := σ) h x) items σ ⟨0, Nat.zero_le _, by simp, h0⟩
  · rintro v r σ ⟨k, hk, e, hI⟩
    have hlt : k < items.length := by
      rcases Nat.lt_or_ge k items.length with h | h
      · exact h
      · rw [List.drop_eq_nil_of_le h] at e; cases e
    rw [List.drop_eq_getElem_cons hlt] at e
    cases e
    refine wpSs_mono (fun fl σ' y => ?_) (step k σ hlt hI)
    cases fl with
    | next => exact ⟨k + 1, hlt, rfl, y⟩
    | cont => exact ⟨k + 1, hlt, rfl, y⟩
    | ret d => exact y
    | exc c => exact y
  · rintro σ ⟨k, hk, e, hI⟩
    have : items.length ≤ k := by
      rcases Nat.lt_or_ge k items.length with h | h
      · rw [List.drop_eq_getElem_cons h] at e; cases e
      · exact h
    have : k = items.length := by lia
    subst this; exact hend σ hI
theorem forUp {b : List S} {i n : Nat} {Q : Post} {σ : List L} (I : Nat → List L → Prop) (h0 : I 0 σ) (step : ∀ k σ, k < n → I k σ → wpSs F G b (σ.set i (.val (.int k))) (Stp Q (I (k + 1)))) (hend : ∀ σ, I n σ → Q .next σ) :
    forS F G b i (rangeD 0 n 1) σ Q := by
  have hl : (rangeD 0 n 1).length = n := by simp [rangeD]
  refine forIdx I h0 (fun k σ h hI => ?_) (fun σ h => hend σ (by rwa [hl] at h))
  rw [hl] at h
  have := step k σ h hI
  rw [rangeD_getElem h]
  simpa using this
theorem forDown {b : List S} {i n : Nat} {Q : Post} {σ : List L} {m : Int} (hm : m = (n : Int) - 1) (I : Nat → List L → Prop) (h0 : I n σ) (step : ∀ k σ, k < n → I (k + 1) σ → wpSs F G b (σ.set i (.val (.int k))) (Stp Q (I k))) (hend : ∀ σ, I 0 σ → Q .next σ) :
    forS F G b i (rangeD m n (-1)) σ Q := by
  subst hm
  have hl : (rangeD ((n : Int) - 1) n (-1)).length = n := by simp [rangeD]
  refine forIdx (fun k σ => k ≤ n ∧ I (n - k) σ) ⟨Nat.zero_le _, h0⟩ (fun k σ h hI => ?_) (fun σ h => hend σ (by rw [hl, Nat.sub_self] at h; exact h.2))
  rw [hl] at h
  rw [rangeD_getElem h]
  have e : ((n : Int) - 1 + k * (-1)) = ((n - 1 - k : Nat) : Int) := by lia
  rw [e]
  have e2 : n - k = n - 1 - k + 1 := by lia
  refine wpSs_mono (fun fl σ' y => ?_) (step (n - 1 - k) σ (by lia) (e2 ▸ hI.2))
  have e3 : n - (k + 1) = n - 1 - k := by lia
  cases fl with
  | next => exact ⟨h, e3 ▸ y⟩
  | cont => exact ⟨h, e3 ▸ y⟩
  | ret d => exact y
  | exc c => exact y
theorem forInts {b : List S} {i : Nat} {Q : Post} {xs : List Int} {σ : List L} (I : Nat → List L → Prop) (h0 : I 0 σ) (step : ∀ k σ (h : k < xs.length), I k σ → wpSs F G b (σ.set i (.val (.int xs[k]))) (Stp Q (I (k + 1)))) (hend : ∀ σ, I xs.length σ → Q .next σ) :
    forS F G b i (xs.map .int) σ Q := by
  refine forIdx I h0 (fun k σ h hI => ?_) (fun σ h => hend σ (by simpa using h))
  have h' : k < xs.length := by simpa using h
  have := step k σ h' hI
  simpa using this
/-- a while with an invariant that counts down -/
theorem whileI {c : E} {b : List S} {Q : Post} {σ : List L} (I : Nat → List L → Prop) (n : Nat) (h0 : I n σ) (turn : ∀ n σ, I n σ → (evalE F G σ c).wp (kWh F G b σ Q (fun σ' => ∃ m, m < n ∧ I m σ')) (kX Q σ)) : whileS F G c b σ Q := by
  refine ⟨I, ⟨n, h0⟩, fun n σ hI => Res.wp_mono (turn n σ hI) (fun d (h : kWh F G b σ Q (fun σ' => ∃ m, m < n ∧ I m σ') d) => ?_) fun _ h => h⟩
  cases d <;> first | exact h.elim | skip
  rename_i x
  cases x
  · exact h
  · refine wpSs_mono (fun fl σ' y => ?_) h
    cases fl <;> exact y
end
end Lim

/-! Contracts of the core's defs. -/
namespace Lim
open PySem
/-- locals: 0 a, 1 n -/
noncomputable def B_trimmed : List S := [.assign 1 (.len (.var 0)),
  .while (.and (.cmp .gt (.var 1) (.int 0)) (.cmp .eq (.item (.var 0) (.bin .sub (.var 1) (.int 1))) (.int 0)))
    [.aug 1 .sub (.int 1)],
  .ret (.slice (.var 0) none (some (.var 1)))]
/-- locals: 0 a, 1 b, 2 i -/
noncomputable def B_compare : List S := [.ite (.cmp .ne (.len (.var 0)) (.len (.var 1))) [.ret (.ite (.cmp .lt (.len (.var 0)) (.len (.var 1))) (.neg (.int 1)) (.int 1))]
    [],
  .for 2 (.range3 (.bin .sub (.len (.var 0)) (.int 1)) (.neg (.int 1)) (-1))
    [.ite (.cmp .ne (.item (.var 0) (.var 2)) (.item (.var 1) (.var 2))) [.ret (.ite (.cmp .lt (.item (.var 0) (.var 2)) (.item (.var 1) (.var 2))) (.neg (.int 1)) (.int 1))]
      []],
  .ret (.int 0)]
/-- locals: 0 a, 1 b, 2 rest, 3 borrow, 4 i, 5 t -/
noncomputable def B_sub (f_compare f_trimmed : Nat) : List S := [.ite (.cmp .lt (.call f_compare [.var 0, .var 1]) (.int 0)) [.raise .value]
    [],
  .assignOwn 2 (.list []),
  .assign 3 (.int 0),
  .for 4 (.range1 (.len (.var 0)))
    [.assign 5 (.bin .sub (.item (.var 0) (.var 4)) (.var 3)),
    .ite (.cmp .lt (.var 4) (.len (.var 1))) [.aug 5 .sub (.item (.var 1) (.var 4))]
      [],
    .assign 3 (.int 0),
    .ite (.cmp .lt (.var 5) (.int 0)) [.aug 5 .add (.glob 0),
      .assign 3 (.int 1)]
      [],
    .append 2 (.var 5)],
  .freeze 2,
  .ret (.call f_trimmed [.var 2])]
set_option genInjectivity false
set_option genSizeOf false
structure Cod (α : Type) where
  dec : D → Option α
  enc : α → D
  P : α → Prop
  ok : ∀ d a, dec d = some a → d = enc a ∧ P a
  back : ∀ a, P a → dec (enc a) = some a

noncomputable def natB (B : Nat) : Cod Nat where
  dec := fun d => match d with | .ilist a => if lay (val a).toNat = a ∧ (val a).toNat < B then some (val a).toNat else none | _ => none
  enc := fun n => .ilist (lay n)
  P := fun n => n < B
  ok := fun d a h => by
    split at h
    · split at h
      · rename_i h2; cases h; exact ⟨congrArg D.ilist h2.1.symm, h2.2⟩
      · cases h
    · cases h
  back := fun n h => by
    have e : (val (lay n)).toNat = n := by rw [val_lay]; rfl
    simp [e, h]
noncomputable def cI : Cod Int where
  dec := fun d => match d with | .int i => some i | _ => none
  enc := .int
  P := fun _ => True
  ok := fun d a h => by cases d <;> first | (cases h; done) | (injection h with h; subst h; exact ⟨rfl, trivial⟩)
  back := fun _ _ => rfl
noncomputable def cL : Cod (List Int) where
  dec := fun d => match d with | .ilist i => some i | _ => none
  enc := .ilist
  P := fun _ => True
  ok := fun d a h => by cases d <;> first | (cases h; done) | (injection h with h; subst h; exact ⟨rfl, trivial⟩)
  back := fun _ _ => rfl
noncomputable def cNI (B : Nat) : Cod Nat where
  dec := fun d => match d with | .int i => if 0 ≤ i ∧ i.toNat < B then some i.toNat else none | _ => none
  enc := fun n => .int n
  P := fun n => n < B
  ok := fun d a h => by
    split at h
    · split at h
      · rename_i h2; cases h; exact ⟨congrArg D.int (Int.toNat_of_nonneg h2.1).symm, h2.2⟩
      · cases h
    · cases h
  back := fun n h => by simp [h]
noncomputable def fn1 {α : Type} (A : Cod α) (f : α → Res D) : List D → Res D
  | [x] => (match A.dec x with | some a => f a | none => .stuck)
  | _ => .stuck
noncomputable def fn2 {α β : Type} (A : Cod α) (B : Cod β) (f : α → β → Res D) : List D → Res D
  | [x, y] => (match A.dec x, B.dec y with | some a, some b => f a b | _, _ => .stuck)
  | _ => .stuck
theorem fn1_at {α : Type} {A : Cod α} {f : α → Res D} {a : α} (h : A.P a) : fn1 A f [A.enc a] = f a := by simp only [fn1, A.back a h]
theorem fn2_at {α β : Type} {A : Cod α} {B : Cod β} {f : α → β → Res D} {a : α} {b : β} (h : A.P a) (h' : B.P b) : fn2 A B f [A.enc a, B.enc b] = f a b := by simp only [fn2, A.back a h, B.back b h']

set_option exponentiation.threshold 5000
@[irreducible] noncomputable def BN : Nat := 10000 ^ 1000
@[irreducible] noncomputable def BW : Nat := 10000 ^ 1001
theorem BN_BW : BN * 10000 = BW := by unfold BN BW; exact (Nat.pow_succ (n := 10000) (m := 1000)).symm
theorem BN_len {n : Nat} (h : n < BN) : (lay n).length ≤ 1000 := len_le (by unfold BN at h; exact h)
theorem BW_len {n : Nat} (h : n < BW) : (lay n).length ≤ 1001 := len_le (by unfold BW at h; exact h)
theorem BN_big : 10 ^ 200 ≤ BN := by unfold BN; exact Nat.le_trans (Nat.pow_le_pow_left (by decide : 10 ≤ 10000) 200) (Nat.pow_le_pow_right (by decide) (by decide))
theorem BN_small {n : Nat} (h : n < 10 ^ 200) : n < BN := Nat.lt_of_lt_of_le h BN_big
theorem BN_pos : 0 < BN := by unfold BN; exact Nat.pow_pos (by decide)
theorem BN_lt {n : Nat} (h : n < BN) : n < BW := Nat.lt_of_lt_of_le h (by rw [← BN_BW]; exact Nat.le_mul_of_pos_right _ (by decide))
theorem BW_of {t n : Nat} (hn : n < BN) (h : t < n * 10000) : t < BW := by rw [← BN_BW]; exact Nat.lt_trans h (Nat.mul_lt_mul_of_pos_right hn (by decide))
noncomputable def cN := natB BN
noncomputable def cW := natB BW
theorem fn2_WW {f : Nat → Nat → Res D} {m n : Nat} (h : m < BW) (h' : n < BW) : fn2 cW cW f [.ilist (lay m), .ilist (lay n)] = f m n := fn2_at (A := cW) (B := cW) h h'
theorem fn2_NN {f : Nat → Nat → Res D} {m n : Nat} (h : m < BN) (h' : n < BN) : fn2 cN cN f [.ilist (lay m), .ilist (lay n)] = f m n := fn2_at (A := cN) (B := cN) h h'
theorem fn2_WN {f : Nat → Nat → Res D} {m n : Nat} (h : m < BW) (h' : n < BN) : fn2 cW cN f [.ilist (lay m), .ilist (lay n)] = f m n := fn2_at (A := cW) (B := cN) h h'
theorem fn2_WI {f : Nat → Int → Res D} {m : Nat} {i : Int} (h : m < BW) : fn2 cW cI f [.ilist (lay m), .int i] = f m i := fn2_at (A := cW) (B := cI) h trivial
theorem fn1_NI {f : Nat → Res D} {n : Nat} (h : n < BN) : fn1 (cNI BN) f [.int n] = f n := fn1_at (A := cNI BN) h
theorem fn2_NINI {f : Nat → Nat → Res D} {m n : Nat} (h : m < BN) (h' : n < BN) : fn2 (cNI BN) (cNI BN) f [.int m, .int n] = f m n := fn2_at (A := cNI BN) (B := cNI BN) h h'
theorem fn2_LNI {f : List Int → Nat → Res D} {a : List Int} {n : Nat} (h : n < BN) : fn2 cL (cNI BN) f [.ilist a, .int n] = f a n := fn2_at (A := cL) (B := cNI BN) trivial h
theorem fn1_L {f : List Int → Res D} {a : List Int} : fn1 cL f [.ilist a] = f a := rfl
theorem fn1_I {f : Int → Res D} {a : Int} : fn1 cI f [.int a] = f a := rfl
theorem fn2_II {f : Int → Int → Res D} {a b : Int} : fn2 cI cI f [.int a, .int b] = f a b := rfl

noncomputable def Con (F : Nat → List D → Res D) (G : Nat → Option D) (body : List S) (nl : Nat) (ds : List D) : Res D → Prop
  | .stuck => True
  | .ok d => wpSs F G body (ds.map .val ++ List.replicate nl .unset) (retQ d)
  | .exc x => wpSs F G body (ds.map .val ++ List.replicate nl .unset) (excQ x)

section
variable {F : Nat → List D → Res D} {G : Nat → Option D}

noncomputable def trimmedF : List D → Res D := fn1 cL fun a => .ok (.ilist (trim a))
theorem trimmed_ok (xs : List Int) : Con F G B_trimmed 1 [.ilist xs] (.ok (.ilist (trim xs))) := by
  obtain ⟨I, hI⟩ : ∃ I : Nat → List L → Prop, ∀ k σ, I k σ ↔ (σ = [.val (.ilist xs), .val (.int k)] ∧ k ≤ xs.length ∧ trim (xs.take k) = trim xs) := ⟨_, fun _ _ => Iff.rfl⟩
  simp [Con, B_trimmed]
  refine whileI I xs.length ((hI _ _).mpr ⟨rfl, Nat.le_refl _, by simp⟩) ?_
  intro k σ h
  obtain ⟨rfl, hk, ht⟩ := (hI _ _).mp h
  cases k with
  | zero =>
    simp [sliceL, clip]
    rw [← ht]; rfl
  | succ k =>
    have hlt : k < xs.length := hk
    have e1 : xs.take (k + 1) = xs.take k ++ [xs[k]] := by simp
    simp [hlt]
    by_cases h0 : xs[k] = 0
    · simp [h0]
      refine ⟨k, by lia, (hI _ _).mpr ⟨rfl, by lia, ?_⟩⟩
      rw [e1, h0, trim_snoc_zero] at ht; exact ht
    · simp [h0, sliceL, clip]
      rw [e1, trim_snoc_ne _ h0] at ht
      rw [← ht, ← e1]
      congr 1; lia

noncomputable def cmpN (m n : Nat) : Int := if m < n then -1 else if m = n then 0 else 1
noncomputable def compareF : List D → Res D := fn2 cW cW fun m n => .ok (.int (cmpN m n))
theorem compare_ok (m n : Nat) (hm : m < BW) (hn : n < BW) : Con F G B_compare 1 [.ilist (lay m), .ilist (lay n)] (.ok (.int (cmpN m n))) := by
  have lm := BW_len hm
  have ln := BW_len hn
  obtain ⟨I, hI⟩ : ∃ I : Nat → List L → Prop, ∀ k σ, I k σ ↔ (∃ x, σ = [.val (.ilist (lay m)), .val (.ilist (lay n)), x] ∧ k ≤ (lay m).length ∧ (lay m).drop k = (lay n).drop k) := ⟨_, fun _ _ => Iff.rfl⟩
  simp [Con, B_compare]
  refine kIf_ndec (fun h => ?_) (fun h => ?_)
  · simp
    by_cases h2 : (lay m).length < (lay n).length
    · simp [h2]
      have := lt_of_len h2
      simp [cmpN, this]
    · simp [h2]
      have := lt_of_len (m := n) (n := m) (by lia)
      rw [cmpN, if_neg (by lia), if_neg (by lia)]
  · have hl : (lay m).length = (lay n).length := by lia
    simp
    rw [if_pos ⟨by simp only [LIM]; lia, by simp only [LIM]; lia⟩]
    simp
    refine forDown rfl I ((hI _ _).mpr ⟨_, rfl, Nat.le_refl _, ?_⟩) (fun k σ hk h => ?_) (fun σ h => ?_)
    · rw [List.drop_length, hl, List.drop_length]
    · obtain ⟨x, rfl, h1, h2⟩ := (hI _ _).mp h
      have hk' : k < (lay n).length := by lia
      simp [hk, hk']
      refine kIf_ndec (fun h3 => ?_) (fun h3 => ?_)
      · simp [hk, hk']
        by_cases h4 : (lay m)[k] < (lay n)[k]
        · simp [h4]
          have := cmp_at (digs_lay m) (digs_lay n) hk hk' h2 h4
          rw [val_lay, val_lay] at this
          rw [cmpN, if_pos (by lia)]
        · simp [h4]
          have := cmp_at (digs_lay n) (digs_lay m) hk' hk h2.symm (by lia)
          rw [val_lay, val_lay] at this
          rw [cmpN, if_neg (by lia), if_neg (by lia)]
      · simp
        refine (hI _ _).mpr ⟨_, rfl, by lia, ?_⟩
        rw [List.drop_eq_getElem_cons hk, List.drop_eq_getElem_cons hk', h2, h3]
    · obtain ⟨x, rfl, h1, h2⟩ := (hI _ _).mp h
      have e : m = n := lay_inj (by simpa using h2)
      simp [cmpN, e]

noncomputable def subF : List D → Res D := fn2 cW cW fun m n => if m < n then .exc .value else .ok (.ilist (lay (m - n)))
theorem sub_ok {c t : Nat} (hc : F c = compareF) (ht : F t = trimmedF) (hG : G 0 = some (.int 10000)) (m n : Nat) (hm : m < BW) (hn : n < BW) :
    Con F G (B_sub c t) 4 [.ilist (lay m), .ilist (lay n)] (if m < n then .exc .value else .ok (.ilist (lay (m - n)))) := by
  have lm := BW_len hm
  have ln := BW_len hn
  have hcmp : F c [.ilist (lay m), .ilist (lay n)] = .ok (.int (cmpN m n)) := by rw [hc]; exact fn2_WW hm hn
  by_cases h : m < n
  · simp [h, Con, B_sub, hcmp, cmpN]
  have hlen : (lay n).length ≤ (lay m).length := by
    rcases Nat.lt_or_ge (lay m).length (lay n).length with h' | h'
    · exact absurd (lt_of_len h') h
    · exact h'
  have hnn : ¬ cmpN m n < 0 := by
    unfold cmpN
    split
    · contradiction
    · split <;> lia
  obtain ⟨I, hI⟩ : ∃ I : Nat → List L → Prop, ∀ k σ, I k σ ↔ (∃ rest b x y, σ = [.val (.ilist (lay m)), .val (.ilist (lay n)), .own (.ilist rest), .val (.int b), x, y] ∧ rest.length = k ∧ Digs rest ∧ (b = 0 ∨ b = 1) ∧
      val rest = val ((lay m).take k) - val ((lay n).take k) + b * 10000 ^ k) := ⟨_, fun _ _ => Iff.rfl⟩
  simp [h, Con, B_sub, hcmp, hnn]
  rw [if_pos (by simp only [LIM]; lia)]
  simp
  refine forUp I ((hI _ _).mpr ⟨_, _, _, _, rfl, rfl, .nil, .inl rfl, by simp [val]⟩) (fun k σ hk h => ?_) (fun σ h => ?_)
  · obtain ⟨rest, b, x, y, rfl, h1, h2, h3, h4⟩ := (hI _ _).mp h
    have key : ∀ t' b', (b' = 0 ∨ b' = 1) → t' = (lay m)[k] - b - dg (lay n) k + 10000 * b' → 0 ≤ t' → t' < 10000 → ∀ x y, I (k + 1) [.val (.ilist (lay m)), .val (.ilist (lay n)), .own (.ilist (rest ++ [t'])), .val (.int b'), x, y] := by
      intro t' b' hb e e0 e1 x y
      refine (hI _ _).mpr ⟨_, _, _, _, rfl, by simp [h1], h2.snoc ⟨e0, e1⟩, hb, ?_⟩
      rw [val_snoc, h1, h4, val_take_dg, val_take_dg, dg_in hk, e]
      grind
    have d1 := (digs_lay m).get hk
    have d2 := dg_bounds (digs_lay n) k
    have la : rest.length ≤ LIM := by simp only [LIM]; lia
    simp [hk]
    refine kIf_dec (fun h5 => ?_) (fun h5 => ?_)
    · simp [h5]
      rw [dg_in h5] at key d2
      refine kIf_dec (fun h6 => ?_) (fun h6 => ?_)
      · simp [hG, a_int la]
        exact key _ _ (.inr rfl) (by lia) (by lia) (by lia) _ _
      · simp [a_int la]
        exact key _ _ (.inl rfl) (by lia) (by lia) (by lia) _ _
    · simp
      rw [dg_out h5] at key d2
      refine kIf_dec (fun h6 => ?_) (fun h6 => ?_)
      · simp [hG, a_int la]
        exact key _ _ (.inr rfl) (by lia) (by lia) (by lia) _ _
      · simp [a_int la]
        exact key _ _ (.inl rfl) (by lia) (by lia) (by lia) _ _
  · obtain ⟨rest, b, x, y, rfl, h1, h2, h3, h4⟩ := (hI _ _).mp h
    simp [ht, trimmedF, fn1_L]
    rw [val_take_over (Nat.le_refl _), val_take_over hlen, val_lay, val_lay, ← h1] at h4
    have hb := val_bounds h2
    have hp := pow_pos' rest.length
    have e : b = 0 := by
      rcases h3 with h3 | h3
      · exact h3
      · subst h3; lia
    subst e
    exact trim_eq h2 (by lia)

theorem fmod_dig {t : Int} : 0 ≤ t % 10000 ∧ t % 10000 < 10000 := by lia
theorem compare_at {k : Nat} (h : F k = compareF) {m n : Nat} (hm : m < BW) (hn : n < BW) : F k [.ilist (lay m), .ilist (lay n)] = .ok (.int (cmpN m n)) := by
  rw [h, compareF, fn2_WW hm hn]
theorem trimmed_at {k : Nat} (h : F k = trimmedF) {a : List Int} (ha : Digs a) {n : Nat} (e : val a = n) : F k [.ilist a] = .ok (.ilist (lay n)) := by
  rw [h, trimmedF, fn1_L, trim_eq ha e]
theorem sub_at {k : Nat} (h : F k = subF) {m n : Nat} (hm : m < BW) (hn : n < BW) (hle : n ≤ m) : F k [.ilist (lay m), .ilist (lay n)] = .ok (.ilist (lay (m - n))) := by
  rw [h, subF, fn2_WW hm hn, if_neg (by lia)]
theorem sub_at_exc {k : Nat} (h : F k = subF) {m n : Nat} (hm : m < BW) (hn : n < BW) (hlt : m < n) : F k [.ilist (lay m), .ilist (lay n)] = .exc .value := by
  rw [h, subF, fn2_WW hm hn, if_pos hlt]

theorem rep_zero : ∀ k : Nat, rep [(0 : Int)] k = List.replicate k 0
  | 0 => rfl
  | k + 1 => by rw [rep, rep_zero k, List.replicate_succ]; rfl
theorem digs_zero (k : Nat) : Digs (List.replicate k 0) := fun x hx => by rw [List.eq_of_mem_replicate hx]; lia
theorem val_zeros : ∀ k : Nat, val (List.replicate k 0) = 0
  | 0 => rfl
  | k + 1 => by rw [List.replicate_succ, val, val_zeros k]; rfl
/-- a digit laid over a zero -/
theorem val_set {a : List Int} {k : Nat} (h : k < a.length) (x : Int) : val (a.set k x) = val a + 10000 ^ k * (x - a[k]) := by
  have h' : k < (a.set k x).length := by simpa using h
  rw [val_split (a.set k x) k (by lia), val_split a k (by lia), val_drop h, val_drop h', List.getElem_set_self, List.take_set_of_le (Nat.le_refl _), List.drop_set_of_lt (by lia)]
  grind

end

/-! from a contract to the table's demand -/
section
variable {F : Nat → List D → Res D} {G : Nat → Option D}
theorem pure_cases {k : Nat} {fd : Fun} (h : ∀ ds, F k ds = .stuck ∨ (ds.length = fd.params.length ∧ Con F G fd.body fd.locals.length ds (F k ds))) : PureOk F G k fd := by
  intro ds
  have := h ds
  cases hr : F k ds with
  | stuck => trivial
  | exc c =>
    rw [hr] at this
    rcases this with h | h
    · cases h
    · exact h
  | ok c =>
    rw [hr] at this
    rcases this with h | h
    · cases h
    · exact h
theorem fn1_cases {α : Type} {A : Cod α} {f : α → Res D} (ds : List D) : fn1 A f ds = .stuck ∨ ∃ a, ds = [A.enc a] ∧ A.P a := by
  match ds with
  | [] => exact .inl rfl
  | [x] =>
    cases hx : A.dec x with
    | none => exact .inl (by simp only [fn1, hx])
    | some a =>
      obtain ⟨rfl, hP⟩ := A.ok _ _ hx
      exact .inr ⟨a, rfl, hP⟩
  | _ :: _ :: _ => exact .inl rfl
theorem fn2_cases {α β : Type} {A : Cod α} {B : Cod β} {f : α → β → Res D} (ds : List D) : fn2 A B f ds = .stuck ∨ ∃ a b, ds = [A.enc a, B.enc b] ∧ A.P a ∧ B.P b := by
  match ds with
  | [] => exact .inl rfl
  | [_] => exact .inl rfl
  | [x, y] =>
    cases hx : A.dec x with
    | none => exact .inl (by simp only [fn2, hx])
    | some a =>
      cases hy : B.dec y with
      | none => exact .inl (by simp only [fn2, hx, hy])
      | some b =>
        obtain ⟨rfl, hP⟩ := A.ok _ _ hx
        obtain ⟨rfl, hP'⟩ := B.ok _ _ hy
        exact .inr ⟨a, b, rfl, hP, hP'⟩
  | _ :: _ :: _ :: _ => exact .inl rfl
theorem pure_fn1 {α : Type} {A : Cod α} {f : α → Res D} {k : Nat} {fd : Fun} (hF : F k = fn1 A f) (hp : fd.params.length = 1) (h : ∀ a, A.P a → Con F G fd.body fd.locals.length [A.enc a] (f a)) : PureOk F G k fd := by
  refine pure_cases fun ds => ?_
  rw [hF]
  rcases fn1_cases (A := A) (f := f) ds with h1 | ⟨a, rfl, hP⟩
  · exact .inl h1
  · exact .inr ⟨hp.symm, by rw [fn1_at hP]; exact h a hP⟩
theorem pure_fn2 {α β : Type} {A : Cod α} {B : Cod β} {f : α → β → Res D} {k : Nat} {fd : Fun} (hF : F k = fn2 A B f) (hp : fd.params.length = 2) (h : ∀ a b, A.P a → B.P b → Con F G fd.body fd.locals.length [A.enc a, B.enc b] (f a b)) : PureOk F G k fd := by
  refine pure_cases fun ds => ?_
  rw [hF]
  rcases fn2_cases (A := A) (B := B) (f := f) ds with h1 | ⟨a, b, rfl, hP, hP'⟩
  · exact .inl h1
  · exact .inr ⟨hp.symm, by rw [fn2_at hP hP']; exact h a b hP hP'⟩
open Classical in
/-- a def that answers one datum wherever it is asked rightly -/
noncomputable def okIf (P : List D → Prop) (d : D) : List D → Res D := fun ds => if P ds then .ok d else .stuck
theorem okIf_at {P : List D → Prop} {d : D} {ds : List D} (h : P ds) : okIf P d ds = .ok d := if_pos h
theorem pure_okIf {P : List D → Prop} {d : D} {k : Nat} {fd : Fun} (hF : F k = okIf P d) (h : ∀ ds, P ds → ds.length = fd.params.length ∧ Con F G fd.body fd.locals.length ds (.ok d)) : PureOk F G k fd := by
  intro ds
  rw [hF]
  unfold okIf
  by_cases hP : P ds
  · rw [if_pos hP]; exact h ds hP
  · rw [if_neg hP]; trivial
end
end Lim

/-! mul_small, trial_digit, divmod_long. -/
namespace Lim
open PySem
/-- locals: 0 a, 1 d, 2 product, 3 carry, 4 limb, 5 t -/
noncomputable def B_mul_small : List S := [.ite (.cmp .eq (.var 1) (.int 0)) [.ret (.list [])]
    [],
  .assignOwn 2 (.list []),
  .assign 3 (.int 0),
  .for 4 (.seq (.var 0))
    [.assign 5 (.bin .add (.bin .mul (.var 4) (.var 1)) (.var 3)),
    .append 2 (.bin .mod (.var 5) (.glob 0)),
    .assign 3 (.bin .fdiv (.var 5) (.glob 0))],
  .ite (.cmp .gt (.var 3) (.int 0)) [.append 2 (.var 3)]
    [],
  .freeze 2,
  .ret (.var 2)]
/-- locals: 0 rem, 1 b, 2 low, 3 high, 4 mid -/
noncomputable def B_trial_digit (f_compare f_mul_small : Nat) : List S := [.assign 2 (.int 0),
  .assign 3 (.bin .sub (.glob 0) (.int 1)),
  .while (.cmp .lt (.var 2) (.var 3))
    [.assign 4 (.bin .fdiv (.bin .add (.bin .add (.var 2) (.var 3)) (.int 1)) (.int 2)),
    .ite (.cmp .le (.call f_compare [.call f_mul_small [.var 1, .var 4], .var 0]) (.int 0)) [.assign 2 (.var 4)]
      [.assign 3 (.bin .sub (.var 4) (.int 1))]],
  .ret (.var 2)]
/-- locals: 0 a, 1 b, 2 q, 3 r, 4 i, 5 d -/
noncomputable def B_divmod_long (f_mul_small f_sub f_trial_digit f_trimmed : Nat) : List S := [.ite (.cmp .eq (.len (.var 1)) (.int 0)) [.raise .zero]
    [],
  .assignOwn 2 (.bin .mul (.list [.int 0]) (.len (.var 0))),
  .assign 3 (.list []),
  .for 4 (.range3 (.bin .sub (.len (.var 0)) (.int 1)) (.neg (.int 1)) (-1))
    [.assign 3 (.call f_trimmed [.bin .add (.list [.item (.var 0) (.var 4)]) (.var 3)]),
    .assign 5 (.call f_trial_digit [.var 3, .var 1]),
    .setitem 2 (.var 4) (.var 5),
    .assign 3 (.call f_sub [.var 3, .call f_mul_small [.var 1, .var 5]])],
  .freeze 2,
  .ret (.tup [.call f_trimmed [.var 2], .var 3])]
section
variable {F : Nat → List D → Res D} {G : Nat → Option D}
noncomputable def mulSmallF : List D → Res D := fn2 cW cI fun m d => if 0 ≤ d ∧ d < 10000 then .ok (.ilist (lay (m * d.toNat))) else .stuck
theorem mulSmall_ok (hG : G 0 = some (.int 10000)) (m : Nat) (d : Int) (hm : m < BW) :
    Con F G B_mul_small 4 [.ilist (lay m), .int d] (if 0 ≤ d ∧ d < 10000 then .ok (.ilist (lay (m * d.toNat))) else .stuck) := by
  have lm := BW_len hm
  by_cases hd : 0 ≤ d ∧ d < 10000
  case neg => simp [hd, Con]
  by_cases h0 : d = 0
  · subst h0
    simp [Con, B_mul_small, lay_zero]
  obtain ⟨I, hI⟩ : ∃ I : Nat → List L → Prop, ∀ k σ, I k σ ↔ (∃ p c x y, σ = [.val (.ilist (lay m)), .val (.int d), .own (.ilist p), .val (.int c), x, y] ∧ p.length = k ∧ Digs p ∧ 0 ≤ c ∧ c < d ∧
      val p + 10000 ^ k * c = d * val ((lay m).take k)) := ⟨_, fun _ _ => Iff.rfl⟩
  simp [hd, h0, Con, B_mul_small]
  refine forInts I ((hI _ _).mpr ⟨_, _, _, _, rfl, rfl, .nil, by lia, by lia, by simp [val]⟩) (fun k σ hk h => ?_) (fun σ h => ?_)
  · obtain ⟨p, c, x, y, rfl, h1, h2, h3, h4, h5⟩ := (hI _ _).mp h
    have d1 := (digs_lay m).get hk
    have la : p.length ≤ LIM := by simp only [LIM]; lia
    have hmul : binop .mul (.int (lay m)[k]) (.int d) = .ok (.int ((lay m)[k] * d)) := b_mul ⟨by simp only [FAC]; lia, by simp only [FAC]; lia⟩
    have b1 : (lay m)[k] * d ≤ 9999 * d := Int.mul_le_mul_of_nonneg_right (by lia) (by lia)
    have b2 : 0 ≤ (lay m)[k] * d := Int.mul_nonneg (by lia) (by lia)
    simp [hmul, hG, a_int la]
    refine (hI _ _).mpr ⟨_, _, _, _, rfl, by simp [h1], h2.snoc fmod_dig, by lia, by lia, ?_⟩
    rw [val_snoc, h1, val_take_succ hk, Int.pow_succ]
    have e : (lay m)[k] * d + c = 10000 * (((lay m)[k] * d + c) / 10000) + ((lay m)[k] * d + c) % 10000 := (Int.mul_ediv_add_emod ..).symm
    generalize ((lay m)[k] * d + c) / 10000 = q at e ⊢
    generalize ((lay m)[k] * d + c) % 10000 = r at e ⊢
    grind
  · obtain ⟨p, c, x, y, rfl, h1, h2, h3, h4, h5⟩ := (hI _ _).mp h
    have la : p.length ≤ LIM := by simp only [LIM]; lia
    rw [val_take_over (Nat.le_refl _), val_lay] at h5
    have ev : ((m * d.toNat : Nat) : Int) = d * m := by rw [Int.natCast_mul, Int.toNat_of_nonneg hd.1, Int.mul_comm]
    simp
    refine kIf_dec (fun h6 => ?_) (fun h6 => ?_)
    · simp [a_int la]
      refine lay_of_digs (h2.snoc ⟨h3, by lia⟩) (fun x hx => ?_) ?_
      · simp at hx; lia
      · rw [val_snoc, h1, h5, ev]
    · simp
      have hc : c = 0 := by lia
      subst hc
      have ev2 : val p = ((m * d.toNat : Nat) : Int) := by rw [ev]; lia
      refine lay_of_big h2 (fun hne => ?_) ev2
      have hm0 : 0 < m := by
        rcases Nat.eq_zero_or_pos m with rfl | h'
        · rw [lay_zero] at h1; exact absurd (List.length_eq_zero_iff.mp h1) hne
        · exact h'
      have h7 := lay_low hm0
      have h8 : (m : Int) * 1 ≤ m * d := Int.mul_le_mul_of_nonneg_left (by lia) (by lia)
      rw [h1, ev2, ev, Int.mul_comm]
      lia
theorem mulSmall_at {k : Nat} (h : F k = mulSmallF) {m : Nat} {d : Int} (hm : m < BW) (h0 : 0 ≤ d) (h1 : d < 10000) : F k [.ilist (lay m), .int d] = .ok (.ilist (lay (m * d.toNat))) := by
  rw [h, mulSmallF, fn2_WI hm, if_pos ⟨h0, h1⟩]
noncomputable def trialF : List D → Res D := fn2 cW cN fun m n => if m < n * 10000 then .ok (.int ((m / n : Nat) : Int)) else .stuck
theorem trial_ok {c t : Nat} (hc : F c = compareF) (ht : F t = mulSmallF) (hG : G 0 = some (.int 10000)) (m n : Nat) (hm : m < BW) (hn : n < BN) :
    Con F G (B_trial_digit c t) 3 [.ilist (lay m), .ilist (lay n)] (if m < n * 10000 then .ok (.int ((m / n : Nat) : Int)) else .stuck) := by
  by_cases h : m < n * 10000
  case neg => simp [h, Con]
  have hn0 : 0 < n := by lia
  obtain ⟨I, hI⟩ : ∃ I : Nat → List L → Prop, ∀ k σ, I k σ ↔ (∃ (lo hi : Nat) (x : L), σ = [.val (.ilist (lay m)), .val (.ilist (lay n)), .val (.int lo), .val (.int hi), x] ∧ k = hi - lo ∧ lo ≤ m / n ∧ m / n ≤ hi ∧ hi < 10000) := ⟨_, fun _ _ => Iff.rfl⟩
  have hq : m / n < 10000 := Nat.div_lt_of_lt_mul h
  simp [h, Con, B_trial_digit, hG]
  refine whileI I 9999 ((hI _ _).mpr ⟨0, 9999, _, rfl, rfl, Nat.zero_le _, by lia, by lia⟩) (fun k σ h => ?_)
  obtain ⟨lo, hi, x, rfl, h1, h2, h3, h4⟩ := (hI _ _).mp h
  simp
  refine kWh_dec (fun h5 => ?_) (fun h5 => ?_)
  · obtain ⟨mid, em⟩ : ∃ mid, mid = (lo + hi + 1) / 2 := ⟨_, rfl⟩
    have hmid : ((lo : Int) + hi + 1) / 2 = (mid : Int) := by lia
    have hp : n * mid < BW := by
      rw [← BN_BW]
      exact Nat.lt_of_le_of_lt (Nat.mul_le_mul_left n (by lia : mid ≤ 10000)) (Nat.mul_lt_mul_of_pos_right hn (by decide))
    have e1 := mulSmall_at ht (m := n) (d := mid) (BN_lt hn) (by lia) (by lia)
    have e2 := compare_at hc (m := n * mid) (n := m) hp hm
    rw [Int.toNat_natCast] at e1
    simp [hmid, e1, e2]
    refine kIf_dec (fun h6 => ?_) (fun h6 => ?_)
    · have h7 : n * mid ≤ m := by
        unfold cmpN at h6
        split at h6
        · lia
        · split at h6
          · lia
          · lia
      have h8 : mid ≤ m / n := (Nat.le_div_iff_mul_le hn0).mpr (by rw [Nat.mul_comm]; exact h7)
      simp
      refine ⟨hi - mid, by lia, (hI _ _).mpr ⟨mid, hi, _, rfl, rfl, h8, h3, h4⟩⟩
    · have h7 : m < n * mid := by
        unfold cmpN at h6
        split at h6
        · lia
        · split at h6
          · lia
          · lia
      have h8 : m / n < mid := Nat.div_lt_of_lt_mul h7
      simp
      refine ⟨mid - 1 - lo, by lia, (hI _ _).mpr ⟨lo, mid - 1, .val (.int mid), ?_, rfl, h2, by lia, by lia⟩⟩
      rw [show (mid : Int) - 1 = ((mid - 1 : Nat) : Int) by lia]
  · simp
    lia
theorem trial_at {k : Nat} (h : F k = trialF) {m n : Nat} (hm : m < BW) (hn : n < BN) (hlt : m < n * 10000) : F k [.ilist (lay m), .ilist (lay n)] = .ok (.int ((m / n : Nat) : Int)) := by
  rw [h, trialF, fn2_WN hm hn, if_pos hlt]

noncomputable def divmodF : List D → Res D := fn2 cN cN fun m n => if n = 0 then .exc .zero else .ok (.tup [.ilist (lay (m / n)), .ilist (lay (m % n))])
theorem divmod_ok {fm fs ft fr : Nat} (hfm : F fm = mulSmallF) (hfs : F fs = subF) (hft : F ft = trialF) (hfr : F fr = trimmedF) (m n : Nat) (hm : m < BN) (hn : n < BN) :
    Con F G (B_divmod_long fm fs ft fr) 4 [.ilist (lay m), .ilist (lay n)] (if n = 0 then .exc .zero else .ok (.tup [.ilist (lay (m / n)), .ilist (lay (m % n))])) := by
  have lm := BN_len hm
  have ln := BN_len hn
  by_cases h0 : n = 0
  · subst h0
    simp [Con, B_divmod_long, lay_zero]
  have hln : lay n ≠ [] := fun h => h0 (lay_nil.mp h)
  have hrep : binop .mul (.ilist [0]) (.int (lay m).length) = .ok (.ilist (List.replicate (lay m).length 0)) := by
    rw [b_rep ⟨by lia, by simp only [LIM]; lia, by simp only [LIM, List.length_singleton]; lia⟩, rep_zero]; rfl
  obtain ⟨I, hI⟩ : ∃ I : Nat → List L → Prop, ∀ k σ, I k σ ↔ (∃ (q : List Int) (r : Nat) (x y : L), σ = [.val (.ilist (lay m)), .val (.ilist (lay n)), .own (.ilist q), .val (.ilist (lay r)), x, y] ∧ q.length = (lay m).length ∧ k ≤ q.length ∧ Digs q ∧ r < n ∧
      q.take k = List.replicate k 0 ∧ val ((lay m).drop k) = val (q.drop k) * n + r) := ⟨_, fun _ _ => Iff.rfl⟩
  simp [h0, hln, Con, B_divmod_long, hrep]
  rw [if_pos ⟨by simp only [LIM]; lia, by simp only [LIM]; lia⟩]
  simp
  refine forDown rfl I ((hI _ _).mpr ⟨_, 0, _, _, by rw [lay_zero], by simp, by simp, digs_zero _, by lia, by simp, by simp [val]⟩) (fun k σ hk h => ?_) (fun σ h => ?_)
  · obtain ⟨q, r, x, y, rfl, h1, h2, h3, h4, h5, h6⟩ := (hI _ _).mp h
    have d1 := (digs_lay m).get hk
    have hkq : k < q.length := by lia
    have hcat : binop .add (.ilist [(lay m)[k]]) (.ilist (lay r)) = .ok (.ilist ((lay m)[k] :: lay r)) := by
      have := BN_len (Nat.lt_trans h4 hn)
      rw [b_cat (by simp only [LIM, List.length_singleton]; lia)]; rfl
    obtain ⟨dk, ek⟩ := Int.eq_ofNat_of_zero_le d1.1
    have hnew : val ((lay m)[k] :: lay r) = ((dk + 10000 * r : Nat) : Int) := by rw [val, val_lay, ek]; lia
    have e1 := trimmed_at hfr (Digs.cons d1 (digs_lay r)) hnew
    obtain ⟨t, et⟩ : ∃ t, t = dk + 10000 * r := ⟨_, rfl⟩
    rw [← et] at e1
    have ht : t < n * 10000 := by lia
    have htW : t < BW := BW_of hn ht
    have e2 := trial_at hft htW hn ht
    have hqlt : t / n < 10000 := Nat.div_lt_of_lt_mul ht
    have hle : n * (t / n) ≤ t := Nat.mul_div_le t n
    have hdm : t = n * (t / n) + t % n := (Nat.div_add_mod t n).symm
    have hml : t % n < n := Nat.mod_lt _ (by lia)
    generalize t % n = rr at *
    generalize t / n = qq at *
    have e3 := mulSmall_at hfm (m := n) (d := (qq : Int)) (BN_lt hn) (by lia) (by lia)
    rw [Int.toNat_natCast] at e3
    have e4 := sub_at hfs htW (Nat.lt_of_le_of_lt hle htW) hle
    rw [show t - n * qq = rr by lia] at e4
    have hset : setD (.ilist q) k (.int (qq : Int)) = some (.ilist (q.set k (qq : Int))) := s_int hkq
    have hz : q[k] = 0 := by
      have := congrArg (fun l => l[k]?) h5
      simpa [hkq] using this
    simp [hk, hcat, e1, e2, hset, e3, e4]
    refine (hI _ _).mpr ⟨_, rr, _, _, rfl, by simp [h1], by simp; lia, h3.set ⟨by lia, by lia⟩, hml, ?_, ?_⟩
    · rw [List.take_set_of_le (Nat.le_refl _)]
      have := congrArg (List.take k) h5
      simpa [List.take_take, List.take_replicate] using this
    · have hkq' : k < (q.set k (qq : Int)).length := by simpa using hkq
      rw [val_drop hk, val_drop hkq', List.getElem_set_self, List.drop_set_of_lt (by lia), h6, ek]
      have : (dk : Int) + 10000 * r = n * qq + rr := by
        have h9 : dk + 10000 * r = n * qq + rr := by lia
        have h10 := congrArg (fun x : Nat => (x : Int)) h9
        simpa using h10
      grind
  · obtain ⟨q, r, x, y, rfl, h1, h2, h3, h4, h5, h6⟩ := (hI _ _).mp h
    rw [List.drop_zero, List.drop_zero, val_lay] at h6
    obtain ⟨qn, hqn⟩ := Int.eq_ofNat_of_zero_le (val_nonneg h3)
    rw [hqn] at h6
    have h7 : m = qn * n + r := by have : ((qn * n + r : Nat) : Int) = (qn : Int) * n + r := by rw [Int.natCast_add, Int.natCast_mul]
                                   lia
    have e1 := trimmed_at hfr h3 hqn
    have e2 : m / n = qn := by rw [h7, Nat.mul_comm, Nat.mul_add_div (by lia), Nat.div_eq_of_lt h4, Nat.add_zero]
    have e3 : m % n = r := by rw [h7, Nat.mul_comm, Nat.mul_add_mod, Nat.mod_eq_of_lt h4]
    simp [e1, e2, e3]
theorem divmod_at {k : Nat} (h : F k = divmodF) {m n : Nat} (hm : m < BN) (hn : n < BN) (h0 : 0 < n) : F k [.ilist (lay m), .ilist (lay n)] = .ok (.tup [.ilist (lay (m / n)), .ilist (lay (m % n))]) := by
  rw [h, divmodF, fn2_NN hm hn, if_neg (by lia)]
theorem divmod_at_exc {k : Nat} (h : F k = divmodF) {m : Nat} (hm : m < BN) : F k [.ilist (lay m), .ilist (lay 0)] = .exc .zero := by
  rw [h, divmodF, fn2_NN hm BN_pos, if_pos rfl]

end
end Lim

/-! add. -/
namespace Lim
open PySem
/-- locals: 0 a, 1 b, 2 total, 3 carry, 4 i, 5 t -/
noncomputable def B_add : List S := [.assignOwn 2 (.list []),
  .assign 3 (.int 0),
  .for 4 (.range1 (.max (.len (.var 0)) (.len (.var 1))))
    [.assign 5 (.var 3),
    .ite (.cmp .lt (.var 4) (.len (.var 0))) [.aug 5 .add (.item (.var 0) (.var 4))]
      [],
    .ite (.cmp .lt (.var 4) (.len (.var 1))) [.aug 5 .add (.item (.var 1) (.var 4))]
      [],
    .append 2 (.bin .mod (.var 5) (.glob 0)),
    .assign 3 (.bin .fdiv (.var 5) (.glob 0))],
  .ite (.cmp .gt (.var 3) (.int 0)) [.append 2 (.var 3)]
    [],
  .freeze 2,
  .ret (.var 2)]
section
variable {F : Nat → List D → Res D} {G : Nat → Option D}
noncomputable def addF : List D → Res D := fn2 cW cW fun m n => .ok (.ilist (lay (m + n)))
theorem add_ok (hG : G 0 = some (.int 10000)) (m n : Nat) (hm : m < BW) (hn : n < BW) : Con F G B_add 4 [.ilist (lay m), .ilist (lay n)] (.ok (.ilist (lay (m + n)))) := by
  have lm := BW_len hm
  have ln := BW_len hn
  obtain ⟨N, hN⟩ : ∃ N : Nat, N = (if (lay m).length < (lay n).length then (lay n).length else (lay m).length) := ⟨_, rfl⟩
  have hNm : (lay m).length ≤ N := by rw [hN]; split <;> lia
  have hNn : (lay n).length ≤ N := by rw [hN]; split <;> lia
  have hNle : N ≤ 1001 := by rw [hN]; split <;> lia
  obtain ⟨I, hI⟩ : ∃ I : Nat → List L → Prop, ∀ k σ, I k σ ↔ (∃ p c x y, σ = [.val (.ilist (lay m)), .val (.ilist (lay n)), .own (.ilist p), .val (.int c), x, y] ∧ p.length = k ∧ Digs p ∧ 0 ≤ c ∧ c ≤ 1 ∧
      val p + 10000 ^ k * c = val ((lay m).take k) + val ((lay n).take k)) := ⟨_, fun _ _ => Iff.rfl⟩
  have emax : (if ((lay m).length : Int) < ((lay n).length : Int) then ((lay n).length : Int) else ((lay m).length : Int)) = (N : Int) := by
    rw [hN]
    split <;> split <;> lia
  simp [Con, B_add]
  simp only [Int.ofNat_lt] at emax
  rw [emax]
  simp
  rw [if_pos (by simp only [LIM]; lia)]
  simp
  refine forUp I ((hI _ _).mpr ⟨_, _, _, _, rfl, rfl, .nil, by lia, by lia, by simp [val]⟩) (fun k σ hk h => ?_) (fun σ h => ?_)
  · obtain ⟨p, c, x, y, rfl, h1, h2, h3, h4, h5⟩ := (hI _ _).mp h
    have la : p.length ≤ LIM := by simp only [LIM]; lia
    have key : ∀ t, t = c + dg (lay m) k + dg (lay n) k → ∀ x y, I (k + 1) [.val (.ilist (lay m)), .val (.ilist (lay n)), .own (.ilist (p ++ [t % 10000])), .val (.int (t / 10000)), x, y] := by
      intro t e x y
      have d1 := dg_bounds (digs_lay m) k
      have d2 := dg_bounds (digs_lay n) k
      refine (hI _ _).mpr ⟨_, _, _, _, rfl, by simp [h1], h2.snoc fmod_dig, by lia, by lia, ?_⟩
      rw [val_snoc, h1, val_take_dg, val_take_dg, Int.pow_succ]
      have e2 : t = 10000 * (t / 10000) + t % 10000 := (Int.mul_ediv_add_emod ..).symm
      generalize t / 10000 = q at e2 ⊢
      generalize t % 10000 = r at e2 ⊢
      grind
    simp
    refine kIf_dec (fun h5 => ?_) (fun h5 => ?_)
    · simp [h5]
      refine kIf_dec (fun h6 => ?_) (fun h6 => ?_)
      · simp [h6, hG, a_int la]
        exact key _ (by rw [dg_in h5, dg_in h6]) _ _
      · simp [hG, a_int la]
        exact key _ (by rw [dg_in h5, dg_out h6]; lia) _ _
    · simp
      refine kIf_dec (fun h6 => ?_) (fun h6 => ?_)
      · simp [h6, hG, a_int la]
        exact key _ (by rw [dg_out h5, dg_in h6]; lia) _ _
      · lia
  · obtain ⟨p, c, x, y, rfl, h1, h2, h3, h4, h5⟩ := (hI _ _).mp h
    have la : p.length ≤ LIM := by simp only [LIM]; lia
    rw [val_take_over hNm, val_take_over hNn, val_lay, val_lay] at h5
    simp
    refine kIf_dec (fun h6 => ?_) (fun h6 => ?_)
    · simp [a_int la]
      refine lay_of_digs (h2.snoc ⟨h3, by lia⟩) (fun x hx => ?_) ?_
      · simp at hx; lia
      · rw [val_snoc, h1, h5]; lia
    · simp
      have hc : c = 0 := by lia
      subst hc
      have ev : val p = ((m + n : Nat) : Int) := by lia
      refine lay_of_big h2 (fun hne => ?_) ev
      rw [h1, ev]
      by_cases hlt : (lay m).length < (lay n).length
      · have hn0 : 0 < n := by
          rcases Nat.eq_zero_or_pos n with rfl | h'
          · rw [lay_zero] at hlt; simp at hlt
          · exact h'
        have := lay_low hn0
        have e : N = (lay n).length := by rw [hN, if_pos hlt]
        rw [e]; lia
      · have e : N = (lay m).length := by rw [hN, if_neg hlt]
        have hm0 : 0 < m := by
          rcases Nat.eq_zero_or_pos m with rfl | h'
          · rw [lay_zero] at e
            rw [e] at h1
            exact absurd (List.length_eq_zero_iff.mp h1) hne
          · exact h'
        have := lay_low hm0
        rw [e]; lia
theorem add_at {k : Nat} (h : F k = addF) {m n : Nat} (hm : m < BW) (hn : n < BW) : F k [.ilist (lay m), .ilist (lay n)] = .ok (.ilist (lay (m + n))) := by
  rw [h, addF, fn2_WW hm hn]

end
end Lim

/-! mul_school. -/
namespace Lim
open PySem
/-- locals: 0 a, 1 b, 2 row, 3 i, 4 carry, 5 j, 6 t -/
noncomputable def B_mul_school (f_trimmed : Nat) : List S := [.assignOwn 2 (.bin .mul (.list [.int 0]) (.bin .add (.len (.var 0)) (.len (.var 1)))),
  .for 3 (.range1 (.len (.var 0)))
    [.assign 4 (.int 0),
    .for 5 (.range1 (.len (.var 1)))
      [.assign 6 (.bin .add (.bin .add (.itemV 2 (.bin .add (.var 3) (.var 5))) (.bin .mul (.item (.var 0) (.var 3)) (.item (.var 1) (.var 5)))) (.var 4)),
      .setitem 2 (.bin .add (.var 3) (.var 5)) (.bin .mod (.var 6) (.glob 0)),
      .assign 4 (.bin .fdiv (.var 6) (.glob 0))],
    .setitem 2 (.bin .add (.var 3) (.len (.var 1))) (.var 4)],
  .freeze 2,
  .ret (.call f_trimmed [.var 2])]
section
variable {F : Nat → List D → Res D} {G : Nat → Option D}
noncomputable def mulF : List D → Res D := fn2 cN cN fun m n => .ok (.ilist (lay (m * n)))
theorem mul_ok {fr : Nat} (hfr : F fr = trimmedF) (hG : G 0 = some (.int 10000)) (m n : Nat) (hm : m < BN) (hn : n < BN) :
    Con F G (B_mul_school fr) 5 [.ilist (lay m), .ilist (lay n)] (.ok (.ilist (lay (m * n)))) := by
  have lm := BN_len hm
  have ln := BN_len hn
  obtain ⟨a, ea⟩ : ∃ a, a = lay m := ⟨_, rfl⟩
  obtain ⟨b, eb⟩ : ∃ b, b = lay n := ⟨_, rfl⟩
  have da : Digs a := ea ▸ digs_lay m
  have db : Digs b := eb ▸ digs_lay n
  have va : val a = m := ea ▸ val_lay m
  have vb : val b = n := eb ▸ val_lay n
  rw [← ea] at lm ⊢
  rw [← eb] at ln ⊢
  have hrep : binop .mul (.ilist [0]) (.int ((a.length : Int) + b.length)) = .ok (.ilist (List.replicate (a.length + b.length) 0)) := by
    have e : ((a.length : Int) + b.length) = ((a.length + b.length : Nat) : Int) := by lia
    rw [e, b_rep ⟨by lia, by simp only [LIM]; lia, by simp only [LIM, List.length_singleton]; lia⟩, rep_zero]; rfl
  obtain ⟨I, hI⟩ : ∃ I : Nat → List L → Prop, ∀ k σ, I k σ ↔ (∃ (r : List Int) (x y z u : L), σ = [.val (.ilist a), .val (.ilist b), .own (.ilist r), x, y, z, u] ∧ r.length = a.length + b.length ∧ Digs r ∧
      (∀ j (h : j < r.length), k + b.length ≤ j → r[j] = 0) ∧ val r = val (a.take k) * val b) := ⟨_, fun _ _ => Iff.rfl⟩
  simp [Con, B_mul_school, hrep]
  rw [if_pos (by simp only [LIM]; lia)]
  simp
  refine forUp I ((hI _ _).mpr ⟨_, _, _, _, _, rfl, by simp, digs_zero _, fun j h _ => by simp, by simp [val, val_zeros]⟩) (fun k σ hk h => ?_) (fun σ h => ?_)
  · obtain ⟨r, x, y, z, u, rfl, h1, h2, h3, h4⟩ := (hI _ _).mp h
    have dk := da.get hk
    obtain ⟨J, hJ⟩ : ∃ J : Nat → List L → Prop, ∀ j σ, J j σ ↔ (∃ (q : List Int) (c : Int) (z u : L), σ = [.val (.ilist a), .val (.ilist b), .own (.ilist q), .val (.int k), .val (.int c), z, u] ∧ q.length = a.length + b.length ∧ Digs q ∧ 0 ≤ c ∧ c < 10000 ∧
      (∀ i (h : i < q.length), k + b.length ≤ i → q[i] = 0) ∧ val q + 10000 ^ (k + j) * c = val r + 10000 ^ k * (a[k] * val (b.take j))) := ⟨_, fun _ _ => Iff.rfl⟩
    simp
    rw [if_pos (by simp only [LIM]; lia)]
    simp
    refine forUp J ((hJ _ _).mpr ⟨_, _, _, _, rfl, h1, h2, by lia, by lia, h3, by simp [val]⟩) (fun j σ hj h => ?_) (fun σ h => ?_)
    · obtain ⟨q, c, z, u, rfl, g1, g2, g3, g4, g5, g6⟩ := (hJ _ _).mp h
      have dj := db.get hj
      have hkj : k + j < q.length := by lia
      have dq := g2.get hkj
      have ekj : (k : Int) + j = ((k + j : Nat) : Int) := by lia
      have hget := g_int hkj
      have hmul : binop .mul (.int a[k]) (.int b[j]) = .ok (.int (a[k] * b[j])) := b_mul ⟨by simp only [FAC]; lia, by simp only [FAC]; lia⟩
      have m1 : 0 ≤ a[k] * b[j] := Int.mul_nonneg (by lia) (by lia)
      have m2 : a[k] * b[j] ≤ 9999 * 9999 := Int.mul_le_mul (by lia) (by lia) (by lia) (by lia)
      obtain ⟨t, et⟩ : ∃ t, t = q[k + j] + a[k] * b[j] + c := ⟨_, rfl⟩
      have hset : setD (.ilist q) ((k + j : Nat) : Int) (.int (t % 10000)) = some (.ilist (q.set (k + j) (t % 10000))) := s_int hkj
      rw [← ekj] at hget hset
      simp [hk, hj, hmul, hget, ← et, hG, hset]
      refine (hJ _ _).mpr ⟨_, _, _, _, rfl, by simp [g1], g2.set fmod_dig, by lia, by lia, fun i hi hle => ?_, ?_⟩
      · rw [List.getElem_set_ne (by lia)]
        exact g5 i (by simpa using hi) hle
      · rw [val_set hkj, val_take_succ hj]
        have e2 : t = 10000 * (t / 10000) + t % 10000 := (Int.mul_ediv_add_emod ..).symm
        generalize t / 10000 = q' at e2 ⊢
        generalize t % 10000 = r' at e2 ⊢
        have e3 : (10000 : Int) ^ (k + (j + 1)) = 10000 ^ (k + j) * 10000 := by rw [← Nat.add_assoc, Int.pow_succ]
        have e4 : (10000 : Int) ^ (k + j) = 10000 ^ k * 10000 ^ j := Int.pow_add ..
        rw [e3]
        generalize hP : (10000 : Int) ^ (k + j) = P at *
        rw [e4] at *
        grind
    · obtain ⟨q, c, z, u, rfl, g1, g2, g3, g4, g5, g6⟩ := (hJ _ _).mp h
      have hkb : k + b.length < q.length := by lia
      have ekb : (k : Int) + b.length = ((k + b.length : Nat) : Int) := by lia
      have hset : setD (.ilist q) ((k + b.length : Nat) : Int) (.int c) = some (.ilist (q.set (k + b.length) c)) := s_int hkb
      rw [← ekb] at hset
      simp [hset]
      refine (hI _ _).mpr ⟨_, _, _, _, _, rfl, by simp [g1], g2.set ⟨g3, g4⟩, fun i hi hle => ?_, ?_⟩
      · rw [List.getElem_set_ne (by lia)]
        exact g5 i (by simpa using hi) (by lia)
      · rw [val_set hkb, g5 _ hkb (Nat.le_refl _), val_take_succ hk]
        rw [val_take_over (Nat.le_refl _)] at g6
        grind
  · obtain ⟨r, x, y, z, u, rfl, h1, h2, h3, h4⟩ := (hI _ _).mp h
    rw [val_take_over (Nat.le_refl _), va, vb] at h4
    have e1 := trimmed_at hfr h2 (n := m * n) (by rw [h4, Int.natCast_mul])
    simp [e1]
theorem mul_at {k : Nat} (h : F k = mulF) {m n : Nat} (hm : m < BN) (hn : n < BN) : F k [.ilist (lay m), .ilist (lay n)] = .ok (.ilist (lay (m * n))) := by
  rw [h, mulF, fn2_NN hm hn]

end
end Lim

/-! More contracts of the core: add, shifted, mul_school, divmod_small, pow_nat, isqrt_nat. -/
namespace Lim
open PySem
/-- locals: 0 a, 1 k -/
noncomputable def B_shifted : List S := [.ite (.cmp .eq (.len (.var 0)) (.int 0)) [.ret (.list [])]
    [],
  .ret (.bin .add (.bin .mul (.list [.int 0]) (.var 1)) (.var 0))]
/-- locals: 0 a, 1 d, 2 q, 3 r, 4 i, 5 t -/
noncomputable def B_divmod_small (f_trimmed : Nat) : List S := [.assignOwn 2 (.bin .mul (.list [.int 0]) (.len (.var 0))),
  .assign 3 (.int 0),
  .for 4 (.range3 (.bin .sub (.len (.var 0)) (.int 1)) (.neg (.int 1)) (-1))
    [.assign 5 (.bin .add (.bin .mul (.var 3) (.glob 0)) (.item (.var 0) (.var 4))),
    .setitem 2 (.var 4) (.bin .fdiv (.var 5) (.var 1)),
    .assign 3 (.bin .mod (.var 5) (.var 1))],
  .freeze 2,
  .ret (.tup [.call f_trimmed [.var 2], .var 3])]
/-- locals: 0 a, 1 e, 2 power, 3 square -/
noncomputable def B_pow_nat (f_mul_school : Nat) : List S := [.assign 2 (.list [.int 1]),
  .assign 3 (.var 0),
  .while (.cmp .gt (.var 1) (.int 0))
    [.ite (.cmp .eq (.bin .mod (.var 1) (.int 2)) (.int 1)) [.assign 2 (.call f_mul_school [.var 2, .var 3])]
      [],
    .assign 1 (.bin .fdiv (.var 1) (.int 2)),
    .ite (.cmp .gt (.var 1) (.int 0)) [.assign 3 (.call f_mul_school [.var 3, .var 3])]
      []],
  .ret (.var 2)]
/-- locals: 0 a, 1 root, 2 better -/
noncomputable def B_isqrt_nat (f_add f_compare f_divmod_long f_divmod_small f_shifted : Nat) : List S := [.ite (.cmp .eq (.len (.var 0)) (.int 0)) [.ret (.list [])]
    [],
  .assign 1 (.call f_shifted [.list [.int 1], .bin .fdiv (.bin .add (.len (.var 0)) (.int 1)) (.int 2)]),
  .assign 2 (.item (.call f_divmod_small [.call f_add [.var 1, .item (.call f_divmod_long [.var 0, .var 1]) (.int 0)], .int 2]) (.int 0)),
  .while (.cmp .lt (.call f_compare [.var 2, .var 1]) (.int 0))
    [.assign 1 (.var 2),
    .assign 2 (.item (.call f_divmod_small [.call f_add [.var 1, .item (.call f_divmod_long [.var 0, .var 1]) (.int 0)], .int 2]) (.int 0))],
  .ret (.var 1)]
section
variable {F : Nat → List D → Res D} {G : Nat → Option D}

theorem lay_shift {m : Nat} (h : 0 < m) (k : Nat) : List.replicate k 0 ++ lay m = lay (m * 10000 ^ k) := by
  refine lay_of_digs ((digs_zero k).append (digs_lay m)) (fun x hx => ?_) ?_
  · have hne : lay m ≠ [] := fun e => by have := lay_nil.mp e; lia
    rw [List.getLast?_append] at hx
    cases hy : (lay m).getLast? with
    | none => exact absurd (List.getLast?_eq_none_iff.mp hy) hne
    | some y =>
      rw [hy] at hx
      simp at hx
      rw [← hx]
      exact lay_last y hy
  · rw [val_append, val_zeros, val_lay, List.length_replicate, Int.natCast_mul, Int.natCast_pow, Int.mul_comm]
    simp
noncomputable def shiftedF : List D → Res D := fn2 cW (cNI 3000) fun m k => .ok (.ilist (lay (m * 10000 ^ k)))
theorem shifted_ok (m k : Nat) (hm : m < BW) (hk : k < 3000) : Con F G B_shifted 0 [.ilist (lay m), .int k] (.ok (.ilist (lay (m * 10000 ^ k)))) := by
  have lm := BW_len hm
  by_cases h0 : m = 0
  · subst h0
    simp [Con, B_shifted, lay_zero]
  have hln : lay m ≠ [] := fun h => h0 (lay_nil.mp h)
  have hrep : binop .mul (.ilist [0]) (.int k) = .ok (.ilist (List.replicate k 0)) := by
    rw [b_rep ⟨by lia, by simp only [LIM]; lia, by simp only [LIM, List.length_singleton]; lia⟩, rep_zero]; rfl
  have hcat : binop .add (.ilist (List.replicate k 0)) (.ilist (lay m)) = .ok (.ilist (lay (m * 10000 ^ k))) := by
    rw [b_cat (by simp only [LIM, List.length_replicate]; lia), lay_shift (by lia)]
  simp [Con, B_shifted, hln, hrep, hcat]
theorem fn2_WK {f : Nat → Nat → Res D} {m n : Nat} (h : m < BW) (h' : n < 3000) : fn2 cW (cNI 3000) f [.ilist (lay m), .int n] = f m n := fn2_at (A := cW) (B := cNI 3000) h h'
theorem shifted_at {j : Nat} (h : F j = shiftedF) {m k : Nat} (hm : m < BW) (hk : k < 3000) : F j [.ilist (lay m), .int k] = .ok (.ilist (lay (m * 10000 ^ k))) := by
  rw [h, shiftedF, fn2_WK hm hk]

noncomputable def divSmallF : List D → Res D := fn2 cW (cNI 10000) fun m d => if d = 0 then .stuck else .ok (.tup [.ilist (lay (m / d)), .int ((m % d : Nat) : Int)])
theorem divSmall_ok {fr : Nat} (hfr : F fr = trimmedF) (hG : G 0 = some (.int 10000)) (m d : Nat) (hm : m < BW) (hd : d < 10000) :
    Con F G (B_divmod_small fr) 4 [.ilist (lay m), .int d] (if d = 0 then .stuck else .ok (.tup [.ilist (lay (m / d)), .int ((m % d : Nat) : Int)])) := by
  have lm := BW_len hm
  by_cases h0 : d = 0
  · simp [h0, Con]
  have hrep : binop .mul (.ilist [0]) (.int (lay m).length) = .ok (.ilist (List.replicate (lay m).length 0)) := by
    rw [b_rep ⟨by lia, by simp only [LIM]; lia, by simp only [LIM, List.length_singleton]; lia⟩, rep_zero]; rfl
  obtain ⟨I, hI⟩ : ∃ I : Nat → List L → Prop, ∀ k σ, I k σ ↔ (∃ (q : List Int) (r : Nat) (x y : L), σ = [.val (.ilist (lay m)), .val (.int d), .own (.ilist q), .val (.int r), x, y] ∧ q.length = (lay m).length ∧ k ≤ q.length ∧ Digs q ∧ r < d ∧
      q.take k = List.replicate k 0 ∧ val ((lay m).drop k) = val (q.drop k) * d + r) := ⟨_, fun _ _ => Iff.rfl⟩
  simp [h0, Con, B_divmod_small, hrep]
  rw [if_pos ⟨by simp only [LIM]; lia, by simp only [LIM]; lia⟩]
  simp
  refine forDown rfl I ((hI _ _).mpr ⟨_, 0, _, _, rfl, by simp, by simp, digs_zero _, by lia, by simp, by simp [val]⟩) (fun k σ hk h => ?_) (fun σ h => ?_)
  · obtain ⟨q, r, x, y, rfl, h1, h2, h3, h4, h5, h6⟩ := (hI _ _).mp h
    have d1 := (digs_lay m).get hk
    have hkq : k < q.length := by lia
    obtain ⟨dk, ek⟩ := Int.eq_ofNat_of_zero_le d1.1
    have hmul : binop .mul (.int (r : Int)) (.int 10000) = .ok (.int ((r : Int) * 10000)) := b_mul ⟨by simp only [FAC]; lia, by simp only [FAC]; lia⟩
    obtain ⟨t, et⟩ : ∃ t, t = r * 10000 + dk := ⟨_, rfl⟩
    have ht : ((r : Int) * 10000 + (lay m)[k]) = (t : Int) := by lia
    have hlt : t < d * 10000 := by lia
    have hqlt : t / d < 10000 := Nat.div_lt_of_lt_mul hlt
    have hml : t % d < d := Nat.mod_lt _ (by lia)
    have hdm : t = d * (t / d) + t % d := (Nat.div_add_mod t d).symm
    have b1 : binop .fdiv (.int (t : Int)) (.int (d : Int)) = .ok (.int ((t / d : Nat) : Int)) := by rw [b_divp (by lia) (by lia), Int.natCast_ediv]
    have b2 : binop .mod (.int (t : Int)) (.int (d : Int)) = .ok (.int ((t % d : Nat) : Int)) := by rw [b_modp (by lia), Int.natCast_emod]
    generalize t % d = rr at *
    generalize t / d = qq at *
    have hset : setD (.ilist q) k (.int (qq : Int)) = some (.ilist (q.set k (qq : Int))) := s_int hkq
    have hz : q[k] = 0 := by
      have := congrArg (fun l => l[k]?) h5
      simpa [hkq] using this
    simp [hk, hG, hmul, ht, b1, b2, hset]
    refine (hI _ _).mpr ⟨_, rr, _, _, rfl, by simp [h1], by simp; lia, h3.set ⟨by lia, by lia⟩, hml, ?_, ?_⟩
    · rw [List.take_set_of_le (Nat.le_refl _)]
      have := congrArg (List.take k) h5
      simpa [List.take_take, List.take_replicate] using this
    · have hkq' : k < (q.set k (qq : Int)).length := by simpa using hkq
      rw [val_drop hk, val_drop hkq', List.getElem_set_self, List.drop_set_of_lt (by lia), h6, ek]
      have : (dk : Int) + 10000 * r = d * qq + rr := by
        have h9 : dk + 10000 * r = d * qq + rr := by lia
        have h10 := congrArg (fun x : Nat => (x : Int)) h9
        simpa using h10
      grind
  · obtain ⟨q, r, x, y, rfl, h1, h2, h3, h4, h5, h6⟩ := (hI _ _).mp h
    rw [List.drop_zero, List.drop_zero, val_lay] at h6
    obtain ⟨qn, hqn⟩ := Int.eq_ofNat_of_zero_le (val_nonneg h3)
    rw [hqn] at h6
    have h7 : m = qn * d + r := by have : ((qn * d + r : Nat) : Int) = (qn : Int) * d + r := by rw [Int.natCast_add, Int.natCast_mul]
                                   lia
    have e1 := trimmed_at hfr h3 hqn
    have e2 : m / d = qn := by rw [h7, Nat.mul_comm, Nat.mul_add_div (by lia), Nat.div_eq_of_lt h4, Nat.add_zero]
    have e3 : m % d = r := by rw [h7, Nat.mul_comm, Nat.mul_add_mod, Nat.mod_eq_of_lt h4]
    have e4 : (m : Int) % d = r := by rw [← Int.natCast_emod, e3]
    simp [e1, e2, e4]
theorem fn2_WD {f : Nat → Nat → Res D} {m n : Nat} (h : m < BW) (h' : n < 10000) : fn2 cW (cNI 10000) f [.ilist (lay m), .int n] = f m n := fn2_at (A := cW) (B := cNI 10000) h h'
theorem divSmall_at {k : Nat} (h : F k = divSmallF) {m d : Nat} (hm : m < BW) (hd : d < 10000) (h0 : 0 < d) : F k [.ilist (lay m), .int d] = .ok (.tup [.ilist (lay (m / d)), .int ((m % d : Nat) : Int)]) := by
  rw [h, divSmallF, fn2_WD hm hd, if_neg (by lia)]

theorem lay_one : lay 1 = [1] := by rw [lay_pos (by decide)]; simp [lay_zero]

noncomputable def powF : List D → Res D := fn2 cN (cNI BN) fun m e => if m ^ e < BN then .ok (.ilist (lay (m ^ e))) else .stuck
theorem pow_ok {fm : Nat} (hfm : F fm = mulF) (m e : Nat) (hm : m < BN) : Con F G (B_pow_nat fm) 2 [.ilist (lay m), .int e] (if m ^ e < BN then .ok (.ilist (lay (m ^ e))) else .stuck) := by
  by_cases hlt : m ^ e < BN
  case neg => simp [hlt, Con]
  obtain ⟨I, hI⟩ : ∃ I : Nat → List L → Prop, ∀ k σ, I k σ ↔ (∃ (p s : Nat), σ = [.val (.ilist (lay m)), .val (.int k), .val (.ilist (lay p)), .val (.ilist (lay s))] ∧ p < BN ∧ s < BN ∧ (p = 0 → s = 0) ∧ p * s ^ k = m ^ e) := ⟨_, fun _ _ => Iff.rfl⟩
  have h1BN : 1 < BN := BN_small (by decide)
  simp [hlt, Con, B_pow_nat]
  refine whileI I e ((hI _ _).mpr ⟨1, m, by rw [lay_one], h1BN, hm, by lia, by simp⟩) (fun k σ h => ?_)
  obtain ⟨p, s, rfl, h1, h2, h3, h4⟩ := (hI _ _).mp h
  by_cases h0 : k = 0
  · subst h0
    simp at h4
    simp [h4]
  · have hk : 0 < k := by lia
    obtain ⟨q, hq⟩ : ∃ q, q = k / 2 := ⟨_, rfl⟩
    have hhalf : (k : Int) / 2 = (q : Int) := by lia
    have hle : ∀ p s j : Nat, 0 < j → (p = 0 → s = 0) → p * s ^ j = m ^ e → s < BN := fun p s j hj hz heq => by
      by_cases hp : p = 0
      · rw [hz hp]; exact BN_pos
      · refine Nat.lt_of_le_of_lt ?_ hlt
        rw [← heq]
        exact Nat.le_trans (Nat.le_self_pow (by lia) s) (Nat.le_mul_of_pos_left _ (by lia))
    have hpw : ∀ j, s ^ (2 * j) = (s * s) ^ j := fun j => by rw [Nat.pow_mul, Nat.pow_two]
    have hpow1 : ∀ p j : Nat, p * s ^ (2 * j + 1) = p * s * (s * s) ^ j := fun p j => by rw [Nat.pow_succ, hpw, Nat.mul_comm (_ ^ _) s, Nat.mul_assoc]
    simp [hk]
    refine kIf_dec (fun h5 => ?_) (fun h5 => ?_)
    · -- an odd exponent
      have hk2 : k = 2 * q + 1 := by lia
      have e1 : p * s * (s * s) ^ q = m ^ e := by rw [← hpow1, ← hk2, h4]
      have hps : p * s < BN := by
        by_cases hs : s = 0
        · rw [hs, Nat.mul_zero]; exact BN_pos
        · refine Nat.lt_of_le_of_lt ?_ hlt
          rw [← e1]
          exact Nat.le_mul_of_pos_right _ (Nat.pow_pos (Nat.mul_pos (by lia) (by lia)))
      have hz : p * s = 0 → s * s = 0 := fun hz => by
        rcases Nat.mul_eq_zero.mp hz with q | q
        · rw [h3 q]
        · rw [q]
      simp [mul_at hfm h1 h2, hhalf]
      by_cases h6 : q = 0
      · have h7 : (0 < q) = False := eq_false (by lia)
        simp [h7]
        refine ⟨q, by lia, (hI _ _).mpr ⟨p * s, s, rfl, hps, h2, fun q => by rcases Nat.mul_eq_zero.mp q with q | q; exact h3 q; exact q, ?_⟩⟩
        rw [h6] at e1 ⊢; simpa using e1
      · have h7 : 0 < q := by lia
        have hss := hle (p * s) (s * s) q h7 hz e1
        simp [h7, mul_at hfm h2 h2]
        exact ⟨q, by lia, (hI _ _).mpr ⟨p * s, s * s, rfl, hps, hss, hz, e1⟩⟩
    · have hk2 : k = 2 * q := by lia
      have e1 : p * (s * s) ^ q = m ^ e := by rw [← hpw, ← hk2, h4]
      have hz : p = 0 → s * s = 0 := fun q => by rw [h3 q]
      have h7 : 0 < q := by lia
      have hss := hle p (s * s) q h7 hz e1
      simp [hhalf, h7, mul_at hfm h2 h2]
      exact ⟨q, by lia, (hI _ _).mpr ⟨p, s * s, rfl, h1, hss, hz, e1⟩⟩
theorem fn2_NNI {f : Nat → Nat → Res D} {m n : Nat} (h : m < BN) (h' : n < BN) : fn2 cN (cNI BN) f [.ilist (lay m), .int n] = f m n := fn2_at (A := cN) (B := cNI BN) h h'
theorem pow_at {k : Nat} (h : F k = powF) {m e : Nat} (hm : m < BN) (he : e < BN) (hlt : m ^ e < BN) : F k [.ilist (lay m), .int e] = .ok (.ilist (lay (m ^ e))) := by
  rw [h, powF, fn2_NNI hm he, if_pos hlt]

/-! the whole root -/
noncomputable def isq : Nat → Nat
  | 0 => 0
  | n + 1 => if (isq n + 1) * (isq n + 1) ≤ n + 1 then isq n + 1 else isq n
theorem isq_spec : ∀ n, isq n * isq n ≤ n ∧ n < (isq n + 1) * (isq n + 1)
  | 0 => by simp [isq]
  | n + 1 => by
    have ih := isq_spec n
    rw [isq]
    split
    · rename_i h
      refine ⟨h, ?_⟩
      have : (isq n + 1 + 1) * (isq n + 1 + 1) = (isq n + 1) * (isq n + 1) + 2 * isq n + 3 := by grind
      lia
    · lia
theorem sq_mono {a b : Nat} (h : a ≤ b) : a * a ≤ b * b := Nat.mul_le_mul h h
theorem isq_eq {n r : Nat} (h1 : r * r ≤ n) (h2 : n < (r + 1) * (r + 1)) : isq n = r := by
  have h := isq_spec n
  rcases Nat.lt_trichotomy (isq n) r with q | q | q
  · have := sq_mono (show isq n + 1 ≤ r by lia); lia
  · exact q
  · have := sq_mono (show r + 1 ≤ isq n by lia); lia
/-- a step of Newton stays above the root -/
theorem newton {a x : Nat} (hx : 0 < x) : a < ((x + a / x) / 2 + 1) * ((x + a / x) / 2 + 1) := by
  have h1 : a < x * (a / x + 1) := by
    have := Nat.div_add_mod a x
    have := Nat.mod_lt a hx
    rw [Nat.mul_add, Nat.mul_one]; lia
  generalize a / x = q at *
  obtain ⟨y, hy⟩ : ∃ y, y = (x + q) / 2 := ⟨_, rfl⟩
  rw [← hy]
  have h2 : x + (q + 1) ≤ 2 * (y + 1) := by lia
  have h3 : (x + (q + 1)) * (x + (q + 1)) ≤ 2 * (y + 1) * (2 * (y + 1)) := sq_mono h2
  have h4 : 4 * (x * (q + 1)) ≤ (x + (q + 1)) * (x + (q + 1)) := by
    rcases Nat.le_total x (q + 1) with h | h
    · obtain ⟨d, hd⟩ := Nat.exists_eq_add_of_le h
      rw [hd]
      have : (x + (x + d)) * (x + (x + d)) = 4 * (x * (x + d)) + d * d := by grind
      lia
    · obtain ⟨d, hd⟩ := Nat.exists_eq_add_of_le h
      rw [hd]
      have : (q + 1 + d + (q + 1)) * (q + 1 + d + (q + 1)) = 4 * ((q + 1 + d) * (q + 1)) + d * d := by grind
      lia
  have h5 : 2 * (y + 1) * (2 * (y + 1)) = 4 * ((y + 1) * (y + 1)) := by grind
  lia

noncomputable def TN : Nat := 10 ^ 100
theorem TN_BN {n : Nat} (h : n < TN) : n < BN := BN_small (Nat.lt_trans h (by unfold TN; exact Nat.pow_lt_pow_right (by decide) (by decide)))
theorem TN_len {n : Nat} (h : n < TN) : (lay n).length ≤ 25 := len_le (by unfold TN at h; exact h)
noncomputable def isqrtF : List D → Res D := fn1 (natB TN) fun m => .ok (.ilist (lay (isq m)))
theorem isqrt_ok {fa fc fl fs fh : Nat} (hfa : F fa = addF) (hfc : F fc = compareF) (hfl : F fl = divmodF) (hfs : F fs = divSmallF) (hfh : F fh = shiftedF) (m : Nat) (hm : m < TN) :
    Con F G (B_isqrt_nat fa fc fl fs fh) 2 [.ilist (lay m)] (.ok (.ilist (lay (isq m)))) := by
  have hmN := TN_BN hm
  have ln := TN_len hm
  by_cases h0 : m = 0
  · subst h0
    simp [Con, B_isqrt_nat, lay_zero, isq]
  have hln : lay m ≠ [] := fun h => h0 (lay_nil.mp h)
  have step : ∀ x : Nat, 0 < x → x < TN → F fl [.ilist (lay m), .ilist (lay x)] = .ok (.tup [.ilist (lay (m / x)), .ilist (lay (m % x))]) ∧ F fa [.ilist (lay x), .ilist (lay (m / x))] = .ok (.ilist (lay (x + m / x))) ∧
      F fs [.ilist (lay (x + m / x)), .int 2] = .ok (.tup [.ilist (lay ((x + m / x) / 2)), .int (((x + m / x) % 2 : Nat) : Int)]) := fun x hx hxT => by
    have hxN := TN_BN hxT
    have hq : m / x < TN := Nat.lt_of_le_of_lt (Nat.div_le_self _ _) hm
    refine ⟨divmod_at hfl hmN hxN hx, add_at hfa (BN_lt hxN) (BN_lt (TN_BN hq)), ?_⟩
    refine divSmall_at hfs (m := x + m / x) (d := 2) (BN_lt (BN_small ?_)) (by decide) (by decide)
    have : TN + TN ≤ 10 ^ 200 := by decide +kernel
    lia
  obtain ⟨j, hj⟩ : ∃ j, j = ((lay m).length + 1) / 2 := ⟨_, rfl⟩
  have hjI : (((lay m).length : Int) + 1) / 2 = (j : Int) := by lia
  have hj13 : j ≤ 13 := by lia
  have hsh : F fh [.ilist [1], .int (j : Int)] = .ok (.ilist (lay (10000 ^ j))) := by
    have := shifted_at hfh (m := 1) (k := j) (BN_lt (BN_small (by decide))) (by lia)
    rwa [lay_one, Nat.one_mul] at this
  obtain ⟨x0, hx0⟩ : ∃ x0, x0 = 10000 ^ j := ⟨_, rfl⟩
  rw [← hx0] at hsh
  have hx0p : 0 < x0 := by rw [hx0]; exact Nat.pow_pos (by decide)
  have hx0T : x0 < TN := by
    rw [hx0]
    exact Nat.lt_of_le_of_lt (Nat.pow_le_pow_right (by decide) hj13) (by decide +kernel)
  have hx0m : m < (x0 + 1) * (x0 + 1) := by
    have h1 := lay_high m
    have h2 := pow_mono (i := (lay m).length) (j := j + j) (by lia)
    have h3 : (10000 : Int) ^ (j + j) = ((x0 * x0 : Nat) : Int) := by rw [hx0, Int.pow_add, Int.natCast_mul, Int.natCast_pow]; rfl
    rw [h3] at h2
    have h4 : m < x0 * x0 := by lia
    have h5 := sq_mono (show x0 ≤ x0 + 1 by lia)
    lia
  obtain ⟨s1, s2, s3⟩ := step x0 hx0p hx0T
  obtain ⟨I, hI⟩ : ∃ I : Nat → List L → Prop, ∀ k σ, I k σ ↔ (σ = [.val (.ilist (lay m)), .val (.ilist (lay k)), .val (.ilist (lay ((k + m / k) / 2)))] ∧ 0 < k ∧ k < TN ∧ m < (k + 1) * (k + 1)) := ⟨_, fun _ _ => Iff.rfl⟩
  simp [Con, B_isqrt_nat, hln, hjI, hsh, s1, s2, s3]
  refine whileI I x0 ((hI _ _).mpr ⟨rfl, hx0p, hx0T, hx0m⟩) (fun k σ h => ?_)
  obtain ⟨rfl, h1, h2, h3⟩ := (hI _ _).mp h
  obtain ⟨y, hy⟩ : ∃ y, y = (k + m / k) / 2 := ⟨_, rfl⟩
  have hny := newton (a := m) h1
  rw [← hy] at hny ⊢
  have hq : m / k < TN := Nat.lt_of_le_of_lt (Nat.div_le_self _ _) hm
  have hyT : y < TN := by lia
  have ec := compare_at hfc (m := y) (n := k) (BN_lt (TN_BN hyT)) (BN_lt (TN_BN h2))
  simp [ec]
  refine kWh_dec (fun h5 => ?_) (fun h5 => ?_)
  · have hlt : y < k := by
      unfold cmpN at h5
      split at h5
      · assumption
      · split at h5 <;> lia
    have hyp : 0 < y := by
      rcases Nat.eq_zero_or_pos y with q | q
      · rw [q] at hny; lia
      · exact q
    obtain ⟨t1, t2, t3⟩ := step y hyp hyT
    simp [t1, t2, t3]
    exact ⟨y, hlt, (hI _ _).mpr ⟨rfl, hyp, hyT, hny⟩⟩
  · have hge : k ≤ y := by
      unfold cmpN at h5
      split at h5
      · lia
      · lia
    have hkq : k ≤ m / k := by lia
    have hsq : k * k ≤ m := Nat.le_trans (Nat.mul_le_mul_left k hkq) (Nat.mul_div_le m k)
    simp [isq_eq hsq h3]
theorem isqrt_at {k : Nat} (h : F k = isqrtF) {m : Nat} (hm : m < TN) : F k [.ilist (lay m)] = .ok (.ilist (lay (isq m))) := by
  rw [h, isqrtF]; exact fn1_at (A := natB TN) hm
end
end Lim

/-! Signed numbers. -/
namespace Lim
open PySem
/-- locals: 0 sign, 1 magnitude -/
noncomputable def B_with_sign : List S := [.ite (.cmp .eq (.len (.var 1)) (.int 0)) [.ret (.tup [.int 0, .list []])]
    [],
  .ret (.tup [.var 0, .slice (.var 1) none none])]
/-- locals: 0 x -/
noncomputable def B_signed_neg : List S := [.ret (.tup [.neg (.item (.var 0) (.int 0)), .slice (.item (.var 0) (.int 1)) none none])]
/-- locals: 0 x, 1 y -/
noncomputable def B_signed_add (f_add f_compare f_sub f_with_sign : Nat) : List S := [.ite (.cmp .eq (.item (.var 0) (.int 0)) (.int 0)) [.ret (.tup [.item (.var 1) (.int 0), .slice (.item (.var 1) (.int 1)) none none])]
    [],
  .ite (.cmp .eq (.item (.var 1) (.int 0)) (.int 0)) [.ret (.tup [.item (.var 0) (.int 0), .slice (.item (.var 0) (.int 1)) none none])]
    [],
  .ite (.cmp .eq (.item (.var 0) (.int 0)) (.item (.var 1) (.int 0))) [.ret (.tup [.item (.var 0) (.int 0), .call f_add [.item (.var 0) (.int 1), .item (.var 1) (.int 1)]])]
    [],
  .ite (.cmp .ge (.call f_compare [.item (.var 0) (.int 1), .item (.var 1) (.int 1)]) (.int 0)) [.ret (.call f_with_sign [.item (.var 0) (.int 0), .call f_sub [.item (.var 0) (.int 1), .item (.var 1) (.int 1)]])]
    [],
  .ret (.tup [.item (.var 1) (.int 0), .call f_sub [.item (.var 1) (.int 1), .item (.var 0) (.int 1)]])]
noncomputable def sgn (z : Int) : Int := if z < 0 then -1 else if z = 0 then 0 else 1
noncomputable def pairZ (z : Int) : D := .tup [.int (sgn z), .ilist (lay z.natAbs)]
noncomputable def decZ (B : Nat) (s : Int) (a : List Int) : Option Int := if lay (val a).toNat = a ∧ (val a).toNat < B ∧ s = sgn (s * val a) ∧ ((s * val a).natAbs = (val a).toNat) then some (s * val a) else none
noncomputable def decP (B : Nat) (x y : D) : Option Int := match x with
  | .int s => (match y with | .ilist a => decZ B s a | _ => none)
  | _ => none
noncomputable def decL (B : Nat) (l : List D) : Option Int := match l with
  | [] => none
  | x :: r => (match r with | [] => none | y :: q => (match q with | [] => decP B x y | _ :: _ => none))
noncomputable def decT (B : Nat) (d : D) : Option Int := match d with | .tup l => decL B l | _ => none
theorem decT_inv {B : Nat} {d : D} {z : Int} (h : decT B d = some z) : ∃ s a, d = .tup [.int s, .ilist a] ∧ decZ B s a = some z := by
  cases d <;> first | (cases h; done) | skip
  rename_i l
  rcases l with _ | ⟨x, _ | ⟨y, _ | ⟨w, q⟩⟩⟩ <;> first | (cases h; done) | skip
  cases x <;> first | (cases h; done) | skip
  cases y <;> first | (cases h; done) | skip
  exact ⟨_, _, rfl, h⟩
noncomputable def cZ (B : Nat) : Cod Int where
  dec := decT B
  enc := pairZ
  P := fun z => z.natAbs < B
  ok := fun d a h => by
    obtain ⟨s, b, rfl, hb⟩ := decT_inv h
    unfold decZ at hb
    by_cases h2 : lay (val b).toNat = b ∧ (val b).toNat < B ∧ s = sgn (s * val b) ∧ ((s * val b).natAbs = (val b).toNat)
    · cases (if_pos h2).symm.trans hb
      refine ⟨?_, ?_⟩
      · unfold pairZ; rw [← h2.2.2.1, h2.2.2.2, h2.1]
      · rw [h2.2.2.2]; exact h2.2.1
    · cases (if_neg h2).symm.trans hb
  back := fun z h => by
    have e : (val (lay z.natAbs)).toNat = z.natAbs := by rw [val_lay]; rfl
    have e2 : sgn z * val (lay z.natAbs) = z := by
      rw [val_lay]
      unfold sgn
      split
      · lia
      · split <;> lia
    refine (if_pos ?_).trans (by rw [e2])
    rw [e, e2]
    exact ⟨rfl, h, rfl, rfl⟩
theorem sgn_pos {z : Int} (h : 0 < z) : sgn z = 1 := by unfold sgn; rw [if_neg (by lia), if_neg (by lia)]
theorem sgn_neg {z : Int} (h : z < 0) : sgn z = -1 := if_pos h
theorem sgn_zero : sgn 0 = 0 := rfl
theorem sgn_ne {x : Int} (h : x ≠ 0) : sgn x ≠ 0 := by
  unfold sgn
  split <;> (try split) <;> lia
theorem sgn_form {x : Int} (h : x ≠ 0) : ∃ (s : Int) (n : Nat), (s = 1 ∨ s = -1) ∧ n ≠ 0 ∧ x = s * n ∧ sgn x = s ∧ x.natAbs = n := by
  rcases Int.lt_or_gt_of_ne h with q | q
  · exact ⟨-1, x.natAbs, .inr rfl, by lia, by lia, sgn_neg q, rfl⟩
  · exact ⟨1, x.natAbs, .inl rfl, by lia, by lia, sgn_pos q, rfl⟩
theorem sgn_at {s : Int} (hs : s = 1 ∨ s = -1) (n : Nat) : sgn (s * n) = (if n = 0 then 0 else s) ∧ (s * n).natAbs = n := by
  have e : (s * n).natAbs = n := by rcases hs with rfl | rfl <;> lia
  refine ⟨?_, e⟩
  by_cases h : n = 0
  · rw [if_pos h, h]; simp [sgn_zero]
  · rw [if_neg h]
    rcases hs with rfl | rfl
    · exact sgn_pos (by lia)
    · exact sgn_neg (by lia)
theorem sgn_same {x y : Int} (h0 : x ≠ 0) (h : sgn x = sgn y) : sgn (x + y) = sgn y ∧ (x + y).natAbs = x.natAbs + y.natAbs := by
  have h1 : y ≠ 0 := fun q => sgn_ne h0 (by rw [h, q]; rfl)
  obtain ⟨s, a, hs, ha, ex, ey, e1⟩ := sgn_form h0
  obtain ⟨t, b, ht, hb, ex', ey', e1'⟩ := sgn_form h1
  have hst : s = t := by rw [← ey, ← ey', h]
  subst hst
  have e : x + y = s * ((a + b : Nat) : Int) := by rw [ex, ex', Int.natCast_add, Int.mul_add]
  obtain ⟨q1, q2⟩ := sgn_at hs (a + b)
  rw [e, q1, q2, e1, e1', ey', if_neg (by lia)]
  exact ⟨rfl, rfl⟩
theorem sgn_sub {s : Int} {a b : Nat} (h : b ≤ a) : s * a + -s * b = s * ((a - b : Nat) : Int) := by
  rw [Int.natCast_sub h, Int.mul_sub, Int.neg_mul]; rfl
theorem sgn_opp {x y : Int} (h0 : x ≠ 0) (h1 : y ≠ 0) (h : ¬ sgn x = sgn y) : ∃ (s : Int) (a b : Nat), (s = 1 ∨ s = -1) ∧ x = s * a ∧ y = -s * b ∧ sgn x = s ∧ sgn y = -s ∧ x.natAbs = a ∧ y.natAbs = b := by
  obtain ⟨s, a, hs, ha, ex, ey, e1⟩ := sgn_form h0
  obtain ⟨t, b, ht, hb, ex', ey', e1'⟩ := sgn_form h1
  have hst : t = -s := by
    rw [ey, ey'] at h
    rcases hs with rfl | rfl <;> rcases ht with rfl | rfl <;> first | rfl | exact absurd rfl h
  subst hst
  exact ⟨s, a, b, hs, ex, ex', ey, ey', e1, e1'⟩
theorem sgn_diff {x y : Int} (h0 : x ≠ 0) (h1 : y ≠ 0) (h : ¬ sgn x = sgn y) (hge : y.natAbs ≤ x.natAbs) : (if x.natAbs - y.natAbs = 0 then 0 else sgn x) = sgn (x + y) ∧ (x + y).natAbs = x.natAbs - y.natAbs := by
  obtain ⟨s, a, b, hs, ex, ey, e1, e2, e3, e4⟩ := sgn_opp h0 h1 h
  rw [e3, e4] at hge
  have e := sgn_sub (s := s) hge
  rw [← ex, ← ey] at e
  obtain ⟨q1, q2⟩ := sgn_at hs (a - b)
  rw [e, q1, q2, e1, e3, e4]
  exact ⟨rfl, rfl⟩
theorem sgn_diff' {x y : Int} (h0 : x ≠ 0) (h1 : y ≠ 0) (h : ¬ sgn x = sgn y) (hge : ¬ y.natAbs ≤ x.natAbs) : sgn (x + y) = sgn y ∧ (x + y).natAbs = y.natAbs - x.natAbs := by
  have := sgn_diff h1 h0 (fun q => h q.symm) (Nat.le_of_not_le hge)
  rw [Int.add_comm x y, ← this.1, if_neg (Nat.sub_ne_zero_of_lt (Nat.lt_of_not_le hge))]
  exact ⟨rfl, this.2⟩
theorem cmpN_ge {m n : Nat} (h : n ≤ m) : 0 ≤ cmpN m n := by
  unfold cmpN
  repeat' split
  all_goals lia
theorem cmpN_lt {m n : Nat} (h : ¬ n ≤ m) : ¬ 0 ≤ cmpN m n := by
  unfold cmpN; rw [if_pos (by lia)]; lia
theorem pairZ_zero : pairZ 0 = .tup [.int 0, .ilist []] := by simp [pairZ, sgn, lay_zero]
theorem fn1_Z {f : Int → Res D} {z : Int} (h : z.natAbs < BN) : fn1 (cZ BN) f [pairZ z] = f z := fn1_at (A := cZ BN) h
theorem fn2_ZZ {f : Int → Int → Res D} {x y : Int} (h : x.natAbs < BN) (h' : y.natAbs < BN) : fn2 (cZ BN) (cZ BN) f [pairZ x, pairZ y] = f x y := fn2_at (A := cZ BN) (B := cZ BN) h h'
section
variable {F : Nat → List D → Res D} {G : Nat → Option D}
noncomputable def withSignF : List D → Res D := fn2 cI cN fun s m => .ok (.tup [.int (if m = 0 then 0 else s), .ilist (lay m)])
theorem withSign_ok (s : Int) (m : Nat) : Con F G B_with_sign 0 [.int s, .ilist (lay m)] (.ok (.tup [.int (if m = 0 then 0 else s), .ilist (lay m)])) := by
  by_cases h : m = 0
  · subst h
    simp [Con, B_with_sign, lay_zero]
  · have hln : lay m ≠ [] := fun e => h (lay_nil.mp e)
    simp [Con, B_with_sign, h, hln]
theorem withSign_at {k : Nat} (h : F k = withSignF) {s : Int} {m : Nat} (hm : m < BN) : F k [.int s, .ilist (lay m)] = .ok (.tup [.int (if m = 0 then 0 else s), .ilist (lay m)]) := by
  rw [h, withSignF]; exact fn2_at (A := cI) (B := cN) trivial hm
noncomputable def negF : List D → Res D := fn1 (cZ BN) fun z => .ok (pairZ (-z))
theorem neg_ok (z : Int) : Con F G B_signed_neg 0 [pairZ z] (.ok (pairZ (-z))) := by
  have e : sgn (-z) = -sgn z := by
    unfold sgn
    split <;> split <;> (try split) <;> lia
  simp [Con, B_signed_neg, pairZ, e]
theorem neg_at {k : Nat} (h : F k = negF) {z : Int} (hz : z.natAbs < BN) : F k [pairZ z] = .ok (pairZ (-z)) := by
  rw [h, negF, fn1_Z hz]
noncomputable def saddF : List D → Res D := fn2 (cZ BN) (cZ BN) fun x y => .ok (pairZ (x + y))
theorem sadd_ok {fa fc fs fw : Nat} (ha : F fa = addF) (hc : F fc = compareF) (hs : F fs = subF) (hw : F fw = withSignF) (x y : Int) (hx : x.natAbs < BN) (hy : y.natAbs < BN) :
    Con F G (B_signed_add fa fc fs fw) 0 [pairZ x, pairZ y] (.ok (pairZ (x + y))) := by
  have ea := add_at ha (BN_lt hx) (BN_lt hy)
  have ec := compare_at hc (BN_lt hx) (BN_lt hy)
  by_cases x0 : x = 0
  · subst x0
    simp [Con, B_signed_add, pairZ, sgn_zero]
  by_cases y0 : y = 0
  · subst y0
    simp [Con, B_signed_add, pairZ, sgn_zero, sgn_ne x0]
  have sx := sgn_ne x0
  have sy := sgn_ne y0
  by_cases hsame : sgn x = sgn y
  · obtain ⟨e1, e2⟩ := sgn_same x0 hsame
    simp [Con, B_signed_add, pairZ, sy, hsame, ea, e1, e2]
  · by_cases hge : y.natAbs ≤ x.natAbs
    · have es := sub_at hs (BN_lt hx) (BN_lt hy) hge
      have ew := withSign_at hw (s := sgn x) (m := x.natAbs - y.natAbs) (Nat.lt_of_le_of_lt (Nat.sub_le ..) hx)
      obtain ⟨e1, e2⟩ := sgn_diff x0 y0 hsame hge
      rw [e1] at ew
      simp [Con, B_signed_add, pairZ, sx, sy, hsame, ec, cmpN_ge hge, es, ew, e2]
    · have es := sub_at hs (BN_lt hy) (BN_lt hx) (Nat.le_of_not_le hge)
      obtain ⟨e1, e2⟩ := sgn_diff' x0 y0 hsame hge
      simp [Con, B_signed_add, pairZ, sx, sy, hsame, ec, cmpN_lt hge, es, e1, e2]
theorem sadd_at {k : Nat} (h : F k = saddF) {x y : Int} (hx : x.natAbs < BN) (hy : y.natAbs < BN) : F k [pairZ x, pairZ y] = .ok (pairZ (x + y)) := by
  rw [h, saddF, fn2_ZZ hx hy]
end
end Lim

/-! Texts of decimal digits. -/
namespace Lim
open PySem
noncomputable def B_to_decimal : List S := [.ite (.cmp .eq (.len (.var 0)) (.int 0)) [.ret (.str "0")]
    [],
  .assignOwn 1 (.list [.strOf (.item (.var 0) (.bin .sub (.len (.var 0)) (.int 1)))]),
  .for 2 (.range3 (.bin .sub (.len (.var 0)) (.int 2)) (.neg (.int 1)) (-1))
    [.append 1 (.zfill4 (.strOf (.item (.var 0) (.var 2))))],
  .freeze 1,
  .ret (.joinE (.var 1))]
/-- locals: 0 s, 1 c, 2 limbs, 3 end -/
noncomputable def B_from_decimal (f_trimmed : Nat) : List S := [.ite (.cmp .eq (.var 0) (.str "")) [.raise .value]
    [],
  .for 1 (.seq (.var 0))
    [.ite (.cmp .notIn (.var 1) (.str "0123456789")) [.raise .value]
      []],
  .assignOwn 2 (.list []),
  .assign 3 (.len (.var 0)),
  .while (.cmp .gt (.var 3) (.int 0))
    [.append 2 (.intOf (.slice (.var 0) (some (.max (.int 0) (.bin .sub (.var 3) (.int 4)))) (some (.var 3)))),
    .aug 3 .sub (.int 4)],
  .freeze 2,
  .ret (.call f_trimmed [.var 2])]
/-- locals: 0 x -/
noncomputable def B_signed_to_decimal (f_to_decimal : Nat) : List S := [.ite (.cmp .lt (.item (.var 0) (.int 0)) (.int 0)) [.ret (.bin .add (.str "-") (.call f_to_decimal [.item (.var 0) (.int 1)]))]
    [],
  .ret (.call f_to_decimal [.item (.var 0) (.int 1)])]
/-- locals: 0 s -/
noncomputable def B_signed_from_decimal (f_from_decimal f_with_sign : Nat) : List S := [.ite (.cmp .eq (.slice (.var 0) none (some (.int 1))) (.str "-")) [.ret (.call f_with_sign [.neg (.int 1), .call f_from_decimal [.slice (.var 0) (some (.int 1)) none]])]
    [],
  .ret (.call f_with_sign [.int 1, .call f_from_decimal [.var 0]])]
/-- locals: 0 x, 1 y -/
noncomputable def B_signed_mul (f_mul_school : Nat) : List S := [.ret (.tup [.bin .mul (.item (.var 0) (.int 0)) (.item (.var 1) (.int 0)), .call f_mul_school [.item (.var 0) (.int 1), .item (.var 1) (.int 1)]])]

/-! rules -/
theorem mkS_size (l : List Nat) : (mkS l).cps.size = l.length := rfl
theorem mkS_list (l : List Nat) : (mkS l).cps.toList = l := rfl
theorem mkS_inj {a b : List Nat} : mkS a = mkS b ↔ a = b := ⟨fun h => by have := congrArg (fun s : Str => s.cps.toList) h; exact this, fun h => by rw [h]⟩
theorem lit_0 : Str.ofString "0" = mkS [48] := by decide +kernel
theorem lit_e : Str.ofString "" = mkS [] := by decide +kernel
theorem lit_m : Str.ofString "-" = mkS [45] := by decide +kernel
theorem lit_p : Str.ofString "+" = mkS [43] := by decide +kernel
theorem lit_s : Str.ofString " " = mkS [32] := by decide +kernel
theorem eqv_s {a b : List Nat} : PyData.eqv (toPy (.str (mkS a))) (toPy (.str (mkS b))) = decide (a = b) := by
  show (mkS a == mkS b) = _
  rw [show (mkS a == mkS b) = decide (mkS a = mkS b) from rfl]
  exact decide_eq_decide.mpr mkS_inj
@[simp] theorem c_eq_s {a b : List Nat} : cmpop .eq (.str (mkS a)) (.str (mkS b)) = .ok (.bool (decide (a = b))) := congrArg (fun x => Res.ok (D.bool x)) eqv_s
@[simp] theorem c_ne_s {a b : List Nat} : cmpop .ne (.str (mkS a)) (.str (mkS b)) = .ok (.bool (!decide (a = b))) := congrArg (fun x => Res.ok (D.bool (!x))) eqv_s
theorem c_notIn {c : Nat} (h : c < 64) : cmpop .notIn (.str (mkS [c])) (.str (Str.ofString "0123456789")) = .ok (.bool (!decide (48 ≤ c ∧ c ≤ 57))) := if_pos ⟨rfl, h⟩
theorem b_scat {a b : List Nat} (h : a.length + b.length ≤ LIM) : binop .add (.str (mkS a)) (.str (mkS b)) = .ok (.str (mkS (a ++ b))) := by
  refine (if_pos h).trans ?_
  have : mkS a ++ mkS b = mkS (a ++ b) := by
    show (⟨a.toArray ++ b.toArray⟩ : Str) = ⟨(a ++ b).toArray⟩
    rw [List.append_toArray]
  rw [this]
@[simp] theorem l_s {l : List Nat} : lenOf (.str (mkS l)) = .ok (.int l.length) := rfl
@[simp] theorem sl_s {l : List Nat} {lo hi : Option Int} : sliceD (.str (mkS l)) lo hi = .ok (.str (mkS (sliceL l lo hi))) := rfl
@[simp] theorem seq_s {l : List Nat} : seqD (.str (mkS l)) = .ok (l.map fun c => .str (mkS [c])) := rfl
theorem str_nat {n : Nat} (h : n < 10 ^ 100) : strD (.int n) = .ok (.str (mkS (decN n))) := if_pos ⟨by lia, h⟩
theorem int_s {l : List Nat} (h : l.length ≤ 640) (h0 : l ≠ []) (hd : ∀ c ∈ l, isDig c) : intD (.str (mkS l)) = .ok (.int (digV l)) := if_pos ⟨h, h0, hd⟩
theorem zfill_s {l : List Nat} (h : l.length ≤ 4) (hd : ∀ c ∈ l, isDig c) : zfillD (.str (mkS l)) = .ok (.str (mkS (List.replicate (4 - l.length) 48 ++ l))) := if_pos ⟨h, hd⟩
noncomputable def dStrs (ls : List (List Nat)) : List D := ls.map fun l => .str (mkS l)
theorem allStrs_s : ∀ ls : List (List Nat), allStrs (dStrs ls) = some (ls.map mkS)
  | [] => rfl
  | l :: r => by show (allStrs (dStrs r)).map _ = _; rw [allStrs_s r]; rfl
theorem cats_s : ∀ ls : List (List Nat), cats (ls.map mkS) = ls.flatten
  | [] => rfl
  | l :: r => by show l ++ cats (r.map mkS) = _; rw [cats_s r]; rfl
theorem join_s {ls : List (List Nat)} (h : ls.flatten.length ≤ LIM) : joinD (.list (dStrs ls)) = .ok (.str (mkS ls.flatten)) := by
  simp only [joinD, allStrs_s, cats_s]; exact if_pos h
section
variable {F : Nat → List D → Res D} {G : Nat → Option D} {σ : List L} {a : E}
@[simp] theorem ev_strOf : evalE F G σ (.strOf a) = (evalE F G σ a).bind strD := rfl
@[simp] theorem ev_intOf : evalE F G σ (.intOf a) = (evalE F G σ a).bind intD := rfl
@[simp] theorem ev_zfill : evalE F G σ (.zfill4 a) = (evalE F G σ a).bind zfillD := rfl
@[simp] theorem ev_ord : evalE F G σ (.ord a) = (evalE F G σ a).bind ordD := rfl
@[simp] theorem ord_s {c : Nat} : ordD (.str (mkS [c])) = .ok (.int c) := rfl
@[simp] theorem ev_join : evalE F G σ (.joinE a) = (evalE F G σ a).bind joinD := rfl
theorem forStr {b : List S} {i : Nat} {Q : Post} {xs : List Nat} {σ : List L} (I : Nat → List L → Prop) (h0 : I 0 σ) (step : ∀ k σ (h : k < xs.length), I k σ → wpSs F G b (σ.set i (.val (.str (mkS [xs[k]])))) (Stp Q (I (k + 1)))) (hend : ∀ σ, I xs.length σ → Q .next σ) :
    forS F G b i (xs.map fun c => .str (mkS [c])) σ Q := by
  refine forIdx I h0 (fun k σ h hI => ?_) (fun σ h => hend σ (by simpa using h))
  have h' : k < xs.length := by simpa using h
  have := step k σ h' hI
  simpa using this
end
/-! digits -/
theorem dchar : ∀ d : Nat, d < 10 → (Nat.digitChar d).toNat = 48 + d := by decide
theorem decN_small {d : Nat} (h : d < 10) : decN d = [48 + d] := by
  unfold decN; rw [Nat.toDigits_of_lt_base h]; simp [dchar d h]
theorem decN_step {h d : Nat} (h0 : 0 < h) (hd : d < 10) : decN (10 * h + d) = decN h ++ [48 + d] := by
  unfold decN
  rw [← Nat.toDigits_append_toDigits (by decide) h0 hd, List.map_append, Nat.toDigits_of_lt_base hd]
  simp [dchar d hd]
theorem digV_snoc (cs : List Nat) (c : Nat) : digV (cs ++ [c]) = digV cs * 10 + (c - 48) := by simp [digV]
theorem dec_ind {P : Nat → Prop} (h0 : ∀ d, d < 10 → P d) (h1 : ∀ h d, 0 < h → d < 10 → P h → P (10 * h + d)) (n : Nat) : P n := by
  induction n using Nat.strongRecOn with
  | _ n ih =>
    by_cases h : n < 10
    · exact h0 n h
    · have := h1 (n / 10) (n % 10) (by lia) (by lia) (ih (n / 10) (by lia))
      rwa [Nat.div_add_mod] at this
theorem decN_dig (n : Nat) : ∀ c ∈ decN n, isDig c := by
  refine dec_ind (P := fun n => ∀ c ∈ decN n, isDig c) (fun d hd c hc => ?_) (fun h d h0 hd ih c hc => ?_) n
  · rw [decN_small hd] at hc
    have := List.mem_singleton.mp hc
    exact ⟨by lia, by lia⟩
  · rw [decN_step h0 hd] at hc
    rcases List.mem_append.mp hc with hc | hc
    · exact ih c hc
    · have := List.mem_singleton.mp hc
      exact ⟨by lia, by lia⟩
theorem digV_decN (n : Nat) : digV (decN n) = n := by
  refine dec_ind (P := fun n => digV (decN n) = n) (fun d hd => ?_) (fun h d h0 hd ih => ?_) n
  · rw [decN_small hd]; simp [digV]
  · rw [decN_step h0 hd, digV_snoc, ih]; lia
theorem decN_ne (n : Nat) : decN n ≠ [] := by
  refine dec_ind (P := fun n => decN n ≠ []) (fun d hd => ?_) (fun h d h0 hd _ => ?_) n
  · rw [decN_small hd]; simp
  · rw [decN_step h0 hd]; simp
theorem decN_len (n : Nat) : ∀ k, 0 < k → n < 10 ^ k → (decN n).length ≤ k := by
  refine dec_ind (P := fun n => ∀ k, 0 < k → n < 10 ^ k → (decN n).length ≤ k) (fun d hd k hk _ => ?_) (fun h d h0 hd ih k hk hlt => ?_) n
  · rw [decN_small hd]; exact hk
  · rw [decN_step h0 hd, List.length_append]
    obtain ⟨j, rfl⟩ : ∃ j, k = j + 1 := ⟨k - 1, by lia⟩
    rw [Nat.pow_succ] at hlt
    have hj : h < 10 ^ j := by lia
    rcases Nat.eq_zero_or_pos j with rfl | q
    · simp at hj; lia
    · have := ih j q hj
      simp only [List.length_singleton]; lia
theorem decN_head (n : Nat) : ∀ c r, decN n ≠ 45 :: r ∧ (c ∈ decN n → c < 64) := fun c r =>
  ⟨fun e => by have := decN_dig n 45 (by rw [e]; exact .head _); exact absurd this.1 (by decide), fun h => Nat.lt_of_le_of_lt (decN_dig n c h).2 (by decide)⟩
theorem dig4 {d : Nat} (h : d < 10000) : ∃ a b c e : Nat, a < 10 ∧ b < 10 ∧ c < 10 ∧ e < 10 ∧ d = 10 * (10 * (10 * a + b) + c) + e := ⟨d / 10 / 10 / 10, d / 10 / 10 % 10, d / 10 % 10, d % 10, by lia, Nat.mod_lt _ (by decide), Nat.mod_lt _ (by decide), Nat.mod_lt _ (by decide), by rw [Nat.div_add_mod, Nat.div_add_mod, Nat.div_add_mod]⟩
theorem quads {d : Nat} (hd : d < 10000) : ∃ q : List Nat, q.length = 4 ∧ (∀ h, 0 < h → decN (10000 * h + d) = decN h ++ q) ∧ (decN d).length ≤ 4 ∧ List.replicate (4 - (decN d).length) 48 ++ decN d = q := by
  obtain ⟨a, b, c, e, ha, hb, hc, he, rfl⟩ := dig4 hd
  refine ⟨[48 + a, 48 + b, 48 + c, 48 + e], rfl, fun h h0 => ?_, ?_⟩
  · have q : 10000 * h + (10 * (10 * (10 * a + b) + c) + e) = 10 * (10 * (10 * (10 * h + a) + b) + c) + e := by lia
    rw [q, decN_step (by lia) he, decN_step (by lia) hc, decN_step (by lia) hb, decN_step h0 ha]
    simp
  clear hd
  by_cases a0 : a = 0
  · subst a0
    by_cases b0 : b = 0
    · subst b0
      by_cases c0 : c = 0
      · subst c0
        rw [show 10 * (10 * (10 * 0 + 0) + 0) + e = e by lia, decN_small he]
        exact ⟨by simp, rfl⟩
      · rw [decN_step (by lia) he, show 10 * (10 * 0 + 0) + c = c by lia, decN_small hc]
        exact ⟨by simp, rfl⟩
    · rw [decN_step (by lia) he, decN_step (by lia) hc, show 10 * 0 + b = b by lia, decN_small hb]
      exact ⟨by simp, rfl⟩
  · rw [decN_step (by lia) he, decN_step (by lia) hc, decN_step (by lia) hb, decN_small ha]
    exact ⟨by simp, rfl⟩
theorem digV_app (r p : List Nat) : digV (r ++ p) = digV r * 10 ^ p.length + digV p := by
  have key : ∀ (p : List Nat) (a : Nat), p.foldl (fun acc c => acc * 10 + (c - 48)) a = a * 10 ^ p.length + digV p := by
    intro p
    induction p with
    | nil => intro a; simp [digV]
    | cons c q ih =>
      intro a
      have h1 := ih (a * 10 + (c - 48))
      have h2 := ih (c - 48)
      simp only [List.foldl_cons, List.length_cons, Nat.pow_succ]
      unfold digV
      simp only [List.foldl_cons, Nat.zero_mul, Nat.zero_add]
      rw [h1, h2]
      grind
  unfold digV
  rw [List.foldl_append, key]
  rfl
theorem digV_lt : ∀ {l : List Nat}, (∀ c ∈ l, isDig c) → digV l < 10 ^ l.length := by
  intro l
  induction l with
  | nil => intro _; decide
  | cons c q ih =>
    intro h
    have h1 := ih fun x hx => h x (.tail _ hx)
    have h2 := h c (.head _)
    have e : digV (c :: q) = digV [c] * 10 ^ q.length + digV q := digV_app [c] q
    rw [e, List.length_cons, Nat.pow_succ]
    have e2 : digV [c] = c - 48 := by simp [digV]
    rw [e2]
    have h3 : (c - 48) * 10 ^ q.length ≤ 9 * 10 ^ q.length := Nat.mul_le_mul_right _ (by lia)
    lia
end Lim

/-! Contracts of the defs upon texts. -/
namespace Lim
open PySem
noncomputable def cS : Cod (List Nat) where
  dec := fun d => match d with | .str x => if x.cps.toList.length ≤ 200 ∧ ∀ c ∈ x.cps.toList, c < 64 then some x.cps.toList else none | _ => none
  enc := fun l => .str (mkS l)
  P := fun l => l.length ≤ 200 ∧ ∀ c ∈ l, c < 64
  ok := fun d a h => by
    split at h
    · split at h
      · rename_i h2; cases h; exact ⟨rfl, h2⟩
      · cases h
    · cases h
  back := fun l h => if_pos h
theorem fn1_S {f : List Nat → Res D} {l : List Nat} (h : cS.P l) : fn1 cS f [.str (mkS l)] = f l := fn1_at (A := cS) h
theorem lay_len_pos {n : Nat} (h : 0 < n) : 0 < (lay n).length := List.length_pos_iff.mpr fun e => by have := lay_nil.mp e; lia
theorem clip_nat {n k : Nat} (h : k ≤ n) : clip n (k : Int) = k := by
  unfold clip
  rw [if_neg (Int.not_lt.mpr (Int.natCast_nonneg k)), Int.min_eq_left (Int.ofNat_le.mpr h), Int.max_eq_right (Int.natCast_nonneg k), Int.toNat_natCast]
theorem clip_one (n : Nat) : clip (n + 1) 1 = 1 := clip_nat (n := n + 1) (k := 1) (Nat.succ_le_succ (Nat.zero_le n))
theorem slice_one (c : Nat) (r : List Nat) : sliceL (c :: r) none (some 1) = [c] := by simp [sliceL, clip_one]
theorem max4 (k : Nat) : maxD (.int 0) (.int ((k : Int) - 4)) = .ok (.int ((k - 4 : Nat) : Int)) := by
  rw [max_int]
  split <;> congr 2 <;> lia
theorem to4 (k : Nat) : ((k : Int) - 4).toNat = k - 4 := by lia
theorem slice4 {l : List Nat} {lo k : Nat} (h1 : lo ≤ l.length) (h2 : k ≤ l.length) : sliceL l (some (lo : Int)) (some (k : Int)) = (l.take k).drop lo := by
  simp only [sliceL, Option.elim, clip_nat h1, clip_nat h2]
  rw [List.drop_take]
theorem split4 {l : List Nat} {lo k : Nat} (h : lo ≤ k) : l.take k = l.take lo ++ (l.take k).drop lo := by
  have := (List.take_append_drop lo (l.take k)).symm
  rwa [List.take_take, Nat.min_eq_left h] at this
theorem le4 {k lo n : Nat} (h : n = k - lo) (h2 : lo = k - 4) : n ≤ 4 := by lia
theorem lt4 {k lo : Nat} (h : 0 < k) (h2 : lo = k - 4) : lo < k := by lia
theorem ne4 {k lo : Nat} (h : 0 < k) (h2 : lo = k - 4) : 0 < k - lo := by lia
theorem cnt4 {k lo n : Nat} (h : n ≤ 200 - k) (h0 : 0 < k) (hk : k ≤ 200) (h2 : lo = k - 4) : n + 1 ≤ 200 - lo :=
  Nat.lt_of_le_of_lt h (Nat.sub_lt_sub_left (Nat.lt_of_lt_of_le (lt4 h0 h2) hk) (lt4 h0 h2))
theorem eq4 {k lo n : Nat} (h : n = k - lo) (h2 : lo = k - 4) (h6 : 4 ≤ k) : n = 4 := by lia
theorem z4 {k lo : Nat} (h2 : lo = k - 4) (h6 : ¬ 4 ≤ k) : lo = 0 := by lia
/-- one group of digits more -/
theorem group {a : List Int} {r p : List Nat} {n : Nat} (hp : p.length = 4 ∨ r = []) (h : val a + 10000 ^ a.length * (digV (r ++ p) : Nat) = (n : Nat)) : val (a ++ [(digV p : Int)]) + 10000 ^ (a ++ [(digV p : Int)]).length * (digV r : Nat) = (n : Nat) := by
  rw [val_snoc, ← h, digV_app, List.length_append, List.length_singleton, Int.pow_succ]
  rcases hp with hp | hp
  · rw [hp]
    simp only [Int.natCast_add, Int.natCast_mul, Int.natCast_pow]
    grind
  · subst hp
    simp [digV]
theorem group_lt {p : List Nat} (h : p.length ≤ 4) (hd : ∀ c ∈ p, isDig c) : 0 ≤ (digV p : Int) ∧ (digV p : Int) < 10000 := by
  have hv := digV_lt hd
  have hp4 : 10 ^ p.length ≤ 10 ^ 4 := Nat.pow_le_pow_right (by decide) h
  generalize digV p = v at *
  generalize 10 ^ p.length = w at *
  exact ⟨by lia, by lia⟩
section
variable {F : Nat → List D → Res D} {G : Nat → Option D}
theorem a_list {xs : List D} {d : D} (h : xs.length ≤ LIM) : appendD (.list xs) d = some (.list (xs ++ [d])) := if_pos h
@[simp] theorem mk_str {x : Str} : mkList [.str x] = .list [.str x] := rfl
noncomputable def toDecF : List D → Res D := fn1 cN fun n => .ok (.str (mkS (decN n)))
theorem toDec_ok (n : Nat) (hn : n < BN) : Con F G B_to_decimal 2 [.ilist (lay n)] (.ok (.str (mkS (decN n)))) := by
  have ln := BN_len hn
  rcases Nat.eq_zero_or_pos n with rfl | h0
  · have e : decN 0 = [48] := decN_small (by decide)
    simp [Con, B_to_decimal, lay_zero, lit_0, e]
  have hl := lay_len_pos h0
  obtain ⟨j, hj⟩ : ∃ j, (lay n).length = j + 1 := ⟨(lay n).length - 1, by lia⟩
  have hj' : j < (lay n).length := by lia
  have hln : lay n ≠ [] := fun e => by rw [e] at hl; cases hl
  obtain ⟨I, hI⟩ : ∃ I : Nat → List L → Prop, ∀ k σ, I k σ ↔ (∃ (ls : List (List Nat)) (h : Nat) (x : L), σ = [.val (.ilist (lay n)), .own (.list (dStrs ls)), x] ∧ k ≤ j ∧ ls.length = j + 1 - k ∧ ls.flatten.length ≤ 4 * (j + 1 - k) ∧
      val ((lay n).drop k) = h ∧ 0 < h ∧ ls.flatten = decN h) := ⟨_, fun _ _ => Iff.rfl⟩
  obtain ⟨t, ht⟩ := Int.eq_ofNat_of_zero_le ((digs_lay n).get hj').1
  have ht4 : t < 10000 := by have := ((digs_lay n).get hj').2; lia
  have ht0 : 0 < t := by
    have := lay_last (n := n) (lay n)[j] (by rw [List.getLast?_eq_getElem?, hj]; simp [hj'])
    lia
  have e1 : ((j : Int) + 1 - 1) = (j : Int) := by lia
  have g1 : getitem (.ilist (lay n)) (.int (j : Int)) = .ok (.int (t : Int)) := by rw [g_int hj', ht]
  have s1 := str_nat (n := t) (Nat.lt_trans ht4 (by decide))
  have h1 : ¬ (j : Int) + 1 = 0 := by lia
  simp [Con, B_to_decimal, hj, e1, g1, s1, h1]
  have e2 : ((j : Int) + 1 - 2) = (j : Int) - 1 := by lia
  rw [e2, if_pos ⟨by simp only [LIM]; lia, by simp only [LIM]; lia⟩]
  simp
  refine forDown (n := j) rfl I ((hI _ _).mpr ⟨[decN t], t, .unset, rfl, Nat.le_refl _, by simp, ?_, ?_, ht0, by simp⟩) (fun k σ hk h => ?_) (fun σ h => ?_)
  · have := decN_len t 4 (by decide) ht4
    simp; lia
  · rw [val_drop hj', List.drop_eq_nil_of_le (by lia), ht]; simp [val]
  · obtain ⟨ls, w, x, rfl, h1, h2, h3, h4, h5, h6⟩ := (hI _ _).mp h
    have hk' : k < (lay n).length := by lia
    obtain ⟨d, hd⟩ := Int.eq_ofNat_of_zero_le ((digs_lay n).get hk').1
    have hd4 : d < 10000 := by have := ((digs_lay n).get hk').2; lia
    have g2 : getitem (.ilist (lay n)) (.int (k : Int)) = .ok (.int (d : Int)) := by rw [g_int hk', hd]
    have s2 := str_nat (n := d) (Nat.lt_trans hd4 (by decide))
    obtain ⟨quad, e6, hq, zl, zq⟩ := quads hd4
    have z2 := zfill_s zl (decN_dig d)
    rw [zq] at z2
    have la : (dStrs ls).length ≤ LIM := by simp only [dStrs, List.length_map, LIM]; lia
    simp [g2, s2, z2, a_list la]
    refine (hI _ _).mpr ⟨ls ++ [quad], 10000 * w + d, .val (.int k), by simp [dStrs], by lia, by simp; lia, ?_, ?_, by lia, ?_⟩
    · have e5 : (ls ++ [quad]).flatten = ls.flatten ++ quad := by simp
      rw [e5, List.length_append, e6]; lia
    · rw [val_drop hk', h4, hd]; simp; lia
    · rw [hq w h5, ← h6]; simp
  · obtain ⟨ls, w, x, rfl, h1, h2, h3, h4, h5, h6⟩ := (hI _ _).mp h
    rw [List.drop_zero, val_lay] at h4
    have e : w = n := by lia
    subst e
    have := join_s (ls := ls) (by simp only [LIM]; lia)
    simp [this, h6]
theorem toDec_at {k : Nat} (h : F k = toDecF) {n : Nat} (hn : n < BN) : F k [.ilist (lay n)] = .ok (.str (mkS (decN n))) := by
  rw [h, toDecF]; exact fn1_at (A := cN) hn

noncomputable def allDig (l : List Nat) : Prop := l ≠ [] ∧ ∀ c ∈ l, isDig c
open Classical in
noncomputable def fromRes (l : List Nat) : Res D := if allDig l then .ok (.ilist (lay (digV l))) else .exc .value
noncomputable def fromF : List D → Res D := fn1 cS fromRes
theorem fromRes_ok {l : List Nat} (h : allDig l) : fromRes l = .ok (.ilist (lay (digV l))) := if_pos h
theorem fromRes_exc {l : List Nat} (h : ¬ allDig l) : fromRes l = .exc .value := if_neg h
theorem from_tail {ft : Nat} (ht : F ft = trimmedF) (l : List Nat) (hl : l.length ≤ 200) (hd : ∀ c ∈ l, isDig c) (x : L) :
    wpSs F G [.while (.cmp .gt (.var 3) (.int 0))
    [.append 2 (.intOf (.slice (.var 0) (some (.max (.int 0) (.bin .sub (.var 3) (.int 4)))) (some (.var 3)))),
    .aug 3 .sub (.int 4)],
  .freeze 2,
  .ret (.call ft [.var 2])] [.val (.str (mkS l)), x, .own (.ilist []), .val (.int l.length)] (retQ (.ilist (lay (digV l)))) := by
  obtain ⟨I, hI⟩ : ∃ I : Nat → List L → Prop, ∀ k σ, I k σ ↔ (∃ (e : Int) (a : List Int), σ = [.val (.str (mkS l)), x, .own (.ilist a), .val (.int e)] ∧ e ≤ l.length ∧ k = e.toNat ∧ a.length ≤ 200 - k ∧ Digs a ∧
      val a + 10000 ^ a.length * (digV (l.take k) : Nat) = (digV l : Nat)) := ⟨_, fun _ _ => Iff.rfl⟩
  simp
  refine whileI I l.length ((hI _ _).mpr ⟨l.length, [], rfl, by lia, by lia, by simp, .nil, by simp [val]⟩) (fun k σ h => ?_)
  obtain ⟨e, a, rfl, h1, h2, h3, h4, h5⟩ := (hI _ _).mp h
  by_cases h0 : 0 < e
  · obtain ⟨lo, hlo⟩ : ∃ lo : Nat, lo = k - 4 := ⟨_, rfl⟩
    have ek : e = (k : Int) := by rw [h2, Int.toNat_of_nonneg (Int.le_of_lt h0)]
    subst ek
    have emax := max4 k
    rw [← hlo] at emax
    have hk : k ≤ l.length := Int.ofNat_le.mp h1
    have hk0 : 0 < k := Int.ofNat_lt.mp h0
    have hlk : lo ≤ k := by rw [hlo]; exact Nat.sub_le ..
    have esl := slice4 (Nat.le_trans hlk hk) hk
    have hsp := split4 (l := l) hlk
    obtain ⟨p, hp⟩ : ∃ p, p = (l.take k).drop lo := ⟨_, rfl⟩
    rw [← hp] at hsp esl
    have hpl : p.length = k - lo := by rw [hp, List.length_drop, List.length_take, Nat.min_eq_left hk]
    have hpd : ∀ c ∈ p, isDig c := fun c hc => hd c (by rw [hp] at hc; exact List.mem_of_mem_take (List.mem_of_mem_drop hc))
    clear hp
    have hp4 := le4 hpl hlo
    have hp0 : p ≠ [] := fun q => by
      have := ne4 hk0 hlo
      rw [← hpl, q] at this; cases this
    have i1 := int_s (l := p) (Nat.le_trans hp4 (by decide)) hp0 hpd
    have la : a.length ≤ LIM := Nat.le_trans (Nat.le_trans h3 (Nat.sub_le ..)) (by decide)
    simp [hk0, emax, -max_int, esl, i1, a_int la]
    refine ⟨lo, lt4 hk0 hlo, (hI _ _).mpr ⟨(k : Int) - 4, a ++ [(digV p : Int)], rfl, Int.le_trans (Int.sub_le_self _ (by decide)) h1, by rw [to4, hlo], ?_, h4.snoc (group_lt hp4 hpd), group (r := l.take lo) ?_ (by rw [← hsp]; exact h5)⟩⟩
    · rw [List.length_append, List.length_singleton]; exact cnt4 h3 hk0 (Nat.le_trans hk hl) hlo
    · by_cases h6 : 4 ≤ k
      · exact .inl (eq4 hpl hlo h6)
      · exact .inr (by rw [z4 hlo h6, List.take_zero])
  · have ek : k = 0 := by lia
    subst ek
    have e3 : val a = (digV l : Nat) := by simpa [digV] using h5
    have e4 := trimmed_at ht h4 e3
    simp [h0, e4]
theorem from_ok {ft : Nat} (ht : F ft = trimmedF) (l : List Nat) (hl : l.length ≤ 200 ∧ ∀ c ∈ l, c < 64) : Con F G (B_from_decimal ft) 3 [.str (mkS l)] (fromRes l) := by
  by_cases h0 : l = []
  · subst h0
    rw [fromRes_exc fun h => h.1 rfl]
    simp [Con, B_from_decimal, lit_e]
  obtain ⟨I, hI⟩ : ∃ I : Nat → List L → Prop, ∀ k σ, I k σ ↔ (∃ x, σ = [.val (.str (mkS l)), x, .unset, .unset] ∧ ∀ c ∈ l.take k, isDig c) := ⟨_, fun _ _ => Iff.rfl⟩
  by_cases hd : ∀ c ∈ l, isDig c
  · rw [fromRes_ok ⟨h0, hd⟩]
    simp [Con, B_from_decimal, lit_e, h0]
    refine forStr I ((hI _ _).mpr ⟨_, rfl, by simp⟩) (fun k σ hk h => ?_) (fun σ h => ?_)
    · obtain ⟨x, rfl, h1⟩ := (hI _ _).mp h
      have hq := hd _ (List.getElem_mem hk)
      have c1 := c_notIn (hl.2 _ (List.getElem_mem hk))
      rw [decide_eq_true hq] at c1
      simp [c1]
      exact (hI _ _).mpr ⟨_, rfl, fun c hc => hd c (List.mem_of_mem_take hc)⟩
    · obtain ⟨x, rfl, h1⟩ := (hI _ _).mp h
      have := from_tail (G := G) ht l hl.1 hd x
      simp at this ⊢
      exact this
  · rw [fromRes_exc fun h => hd h.2]
    simp [Con, B_from_decimal, lit_e, h0]
    refine forStr I ((hI _ _).mpr ⟨_, rfl, by simp⟩) (fun k σ hk h => ?_) (fun σ h => ?_)
    · obtain ⟨x, rfl, h1⟩ := (hI _ _).mp h
      have c1 := c_notIn (hl.2 _ (List.getElem_mem hk))
      by_cases hq : isDig l[k]
      · rw [decide_eq_true hq] at c1
        simp [c1]
        refine (hI _ _).mpr ⟨_, rfl, fun c hc => ?_⟩
        rw [List.take_succ_eq_append_getElem hk] at hc
        rcases List.mem_append.mp hc with hc | hc
        · exact h1 c hc
        · rw [List.mem_singleton.mp hc]; exact hq
      · rw [decide_eq_false hq] at c1
        simp [c1]
    · obtain ⟨x, rfl, h1⟩ := (hI _ _).mp h
      rw [List.take_length] at h1
      exact absurd h1 hd
theorem from_at {k : Nat} (h : F k = fromF) {l : List Nat} (hl : cS.P l) : F k [.str (mkS l)] = fromRes l := by
  rw [h, fromF]; exact fn1_S hl

noncomputable def txt (z : Int) : List Nat := if z < 0 then 45 :: decN z.natAbs else decN z.natAbs
noncomputable def stoDecF : List D → Res D := fn1 (cZ (10 ^ 100)) fun z => .ok (.str (mkS (txt z)))
theorem e100 {n : Nat} (h : n < 10 ^ 100) : n < BN := BN_small (Nat.lt_trans h (Nat.pow_lt_pow_right (by decide) (by decide)))
theorem sgn_lt {z : Int} : sgn z < 0 ↔ z < 0 := by
  unfold sgn
  split
  · simp [*]
  · split <;> simp <;> lia
theorem stoDec_ok {ft : Nat} (ht : F ft = toDecF) (z : Int) (hz : z.natAbs < 10 ^ 100) : Con F G (B_signed_to_decimal ft) 0 [pairZ z] (.ok (.str (mkS (txt z)))) := by
  have e1 := toDec_at ht (e100 hz)
  have e2 := decN_len z.natAbs 100 (by decide) hz
  by_cases h : z < 0
  · have m1 := b_scat (a := [45]) (b := decN z.natAbs) (by simp [LIM]; lia)
    simp [Con, B_signed_to_decimal, pairZ, sgn_lt, h, e1, lit_m, m1, txt]
  · simp [Con, B_signed_to_decimal, pairZ, sgn_lt, h, e1, txt]
theorem stoDec_at {k : Nat} (h : F k = stoDecF) {z : Int} (hz : z.natAbs < 10 ^ 100) : F k [pairZ z] = .ok (.str (mkS (txt z))) := by
  rw [h, stoDecF]; exact fn1_at (A := cZ (10 ^ 100)) hz

open Classical in
noncomputable def sfromRes (l : List Nat) : Res D := if l.head? = some 45 then (if allDig l.tail then .ok (pairZ (-(digV l.tail : Nat))) else .exc .value) else (if allDig l then .ok (pairZ (digV l : Nat)) else .exc .value)
noncomputable def sfromF : List D → Res D := fn1 cS sfromRes
theorem ws_neg {m : Nat} : D.tup [.int (if m = 0 then 0 else -1), .ilist (lay m)] = pairZ (-(m : Int)) := by
  unfold pairZ
  rw [Int.natAbs_neg, Int.natAbs_natCast]
  by_cases h : m = 0
  · rw [if_pos h, h]; rfl
  · rw [if_neg h, sgn_neg (by lia)]
theorem ws_pos {m : Nat} : D.tup [.int (if m = 0 then 0 else 1), .ilist (lay m)] = pairZ (m : Int) := by
  unfold pairZ
  rw [Int.natAbs_natCast]
  by_cases h : m = 0
  · rw [if_pos h, h]; rfl
  · rw [if_neg h, sgn_pos (by lia)]
theorem digV_BN {l : List Nat} (hl : l.length ≤ 200) (hd : ∀ c ∈ l, isDig c) : digV l < BN := Nat.lt_of_lt_of_le (Nat.lt_of_lt_of_le (digV_lt hd) (Nat.pow_le_pow_right (by decide) hl)) BN_big
theorem sfrom_ok {ff fw : Nat} (hf : F ff = fromF) (hw : F fw = withSignF) (l : List Nat) (hl : l.length ≤ 200 ∧ ∀ c ∈ l, c < 64) : Con F G (B_signed_from_decimal ff fw) 0 [.str (mkS l)] (sfromRes l) := by
  by_cases h : l.head? = some 45
  · obtain ⟨r, rfl⟩ : ∃ r, l = 45 :: r := by
      cases l with
      | nil => cases h
      | cons c r => cases h; exact ⟨r, rfl⟩
    have hr : cS.P r := ⟨Nat.le_trans (Nat.le_succ _) hl.1, fun c hc => hl.2 c (.tail _ hc)⟩
    have s1 := slice_one 45 r
    have s2 : sliceL (45 :: r) (some 1) none = r := by
      simp [sliceL, clip_one]
    have e1 := from_at hf hr
    by_cases hd : allDig r
    · rw [fromRes_ok hd] at e1
      have e2 := withSign_at hw (s := -1) (digV_BN hr.1 hd.2)
      rw [ws_neg] at e2
      have e3 : sfromRes (45 :: r) = .ok (pairZ (-(digV r : Nat))) := (if_pos rfl).trans (if_pos hd)
      rw [e3]
      simp [Con, B_signed_from_decimal, s1, s2, lit_m, e1, e2]
    · rw [fromRes_exc hd] at e1
      have e3 : sfromRes (45 :: r) = .exc .value := (if_pos rfl).trans (if_neg hd)
      rw [e3]
      simp [Con, B_signed_from_decimal, s1, s2, lit_m, e1]
  · have s1 : sliceL l none (some 1) ≠ [45] := fun q => h (by
      cases l with
      | nil => simp [sliceL] at q
      | cons c r =>
        rw [slice_one] at q
        cases q; rfl)
    have e1 := from_at hf hl
    by_cases hd : allDig l
    · rw [fromRes_ok hd] at e1
      have e2 := withSign_at hw (s := 1) (digV_BN hl.1 hd.2)
      rw [ws_pos] at e2
      have e3 : sfromRes l = .ok (pairZ (digV l : Nat)) := (if_neg h).trans (if_pos hd)
      rw [e3]
      simp [Con, B_signed_from_decimal, s1, lit_m, e1, e2]
    · rw [fromRes_exc hd] at e1
      have e3 : sfromRes l = .exc .value := (if_neg h).trans (if_neg hd)
      rw [e3]
      simp [Con, B_signed_from_decimal, s1, lit_m, e1]
theorem sfrom_at {k : Nat} (h : F k = sfromF) {l : List Nat} (hl : cS.P l) : F k [.str (mkS l)] = sfromRes l := by
  rw [h, sfromF]; exact fn1_S hl
theorem txt_P {z : Int} (hz : z.natAbs < 10 ^ 100) : (txt z).length ≤ 101 ∧ ∀ c ∈ txt z, c < 64 := by
  have e2 := decN_len z.natAbs 100 (by decide) hz
  have e3 : ∀ c ∈ decN z.natAbs, c < 64 := fun c hc => Nat.lt_of_le_of_lt (decN_dig _ c hc).2 (by decide)
  unfold txt
  split
  · refine ⟨by simp; lia, fun c hc => ?_⟩
    cases hc with
    | head => decide
    | tail _ hc => exact e3 c hc
  · exact ⟨by lia, e3⟩
theorem sfrom_txt (z : Int) : sfromRes (txt z) = .ok (pairZ z) := by
  have hd : allDig (decN z.natAbs) := ⟨decN_ne _, decN_dig _⟩
  unfold txt
  by_cases h : z < 0
  · rw [if_pos h]
    refine ((if_pos rfl).trans (if_pos hd)).trans ?_
    show Res.ok (pairZ (-(digV (decN z.natAbs) : Nat))) = _
    rw [digV_decN, show -((z.natAbs : Nat) : Int) = z by lia]
  · rw [if_neg h]
    have h2 : ¬ (decN z.natAbs).head? = some 45 := fun q => by
      cases e : decN z.natAbs with
      | nil => rw [e] at q; cases q
      | cons c r => rw [e] at q; cases q; exact (decN_head z.natAbs 0 r).1 e
    refine ((if_neg h2).trans (if_pos hd)).trans ?_
    rw [digV_decN, show ((z.natAbs : Nat) : Int) = z by lia]
noncomputable def smulF : List D → Res D := fn2 (cZ BN) (cZ BN) fun x y => if (x * y).natAbs < BN then .ok (pairZ (x * y)) else .stuck
theorem sgn_mul (x y : Int) : sgn x * sgn y = sgn (x * y) := by
  have key : ∀ z : Int, (z < 0 → sgn z = -1) ∧ (z = 0 → sgn z = 0) ∧ (0 < z → sgn z = 1) := fun z => ⟨sgn_neg, fun h => by rw [h]; rfl, sgn_pos⟩
  rcases Int.lt_trichotomy x 0 with h | h | h <;> rcases Int.lt_trichotomy y 0 with h' | h' | h'
  · rw [sgn_neg h, sgn_neg h', sgn_pos (Int.mul_pos_of_neg_of_neg h h')]; rfl
  · rw [h', Int.mul_zero, sgn_zero, Int.mul_zero]
  · rw [sgn_neg h, sgn_pos h', sgn_neg (Int.mul_neg_of_neg_of_pos h h')]; rfl
  · rw [h, Int.zero_mul, sgn_zero, Int.zero_mul]
  · rw [h, Int.zero_mul, sgn_zero, Int.zero_mul]
  · rw [h, Int.zero_mul, sgn_zero, Int.zero_mul]
  · rw [sgn_pos h, sgn_neg h', sgn_neg (Int.mul_neg_of_pos_of_neg h h')]; rfl
  · rw [h', Int.mul_zero, sgn_zero, Int.mul_zero]
  · rw [sgn_pos h, sgn_pos h', sgn_pos (Int.mul_pos h h')]; rfl
theorem sgn_fac (x : Int) : (sgn x).natAbs ≤ FAC := by
  have : (sgn x).natAbs ≤ 1 := by
    unfold sgn
    split
    · decide
    · split <;> decide
  exact Nat.le_trans this (by unfold FAC; decide)
theorem smul_ok {fm : Nat} (hm : F fm = mulF) (x y : Int) (hx : x.natAbs < BN) (hy : y.natAbs < BN) : Con F G (B_signed_mul fm) 0 [pairZ x, pairZ y] (if (x * y).natAbs < BN then .ok (pairZ (x * y)) else .stuck) := by
  have e1 := mul_at hm hx hy
  have m1 : binop .mul (.int (sgn x)) (.int (sgn y)) = .ok (.int (sgn x * sgn y)) := b_mul ⟨sgn_fac x, sgn_fac y⟩
  rw [sgn_mul] at m1
  by_cases h : (x * y).natAbs < BN
  · rw [if_pos h]
    simp [Con, B_signed_mul, pairZ, m1, e1, Int.natAbs_mul]
  · rw [if_neg h]; trivial
theorem smul_at {k : Nat} (h : F k = smulF) {x y : Int} (hx : x.natAbs < BN) (hy : y.natAbs < BN) (hz : (x * y).natAbs < BN) : F k [pairZ x, pairZ y] = .ok (pairZ (x * y)) := by
  rw [h, smulF, fn2_ZZ hx hy, if_pos hz]
end
end Lim

/-! split_at, mul_karatsuba; lists of data. -/
namespace Lim
open PySem
/-- locals: 0 a, 1 k -/
noncomputable def B_split_at (f_trimmed : Nat) : List S := [.ret (.tup [.call f_trimmed [.slice (.var 0) none (some (.var 1))], .slice (.var 0) (some (.var 1)) none])]
/-- what mul_karatsuba does behind its first test; r1 r2 r3 are the calls of itself -/
noncomputable def K_rest (r1 r2 r3 : E) (f_add f_shifted f_split_at f_sub : Nat) : List S := [.assign 3 (.bin .fdiv (.max (.len (.var 0)) (.len (.var 1))) (.int 2)),
  .unpack [4, 5] (.call f_split_at [.var 0, .var 3]),
  .unpack [6, 7] (.call f_split_at [.var 1, .var 3]),
  .assign 8 r1,
  .assign 9 r2,
  .assign 10 r3,
  .assign 11 (.call f_sub [.call f_sub [.var 10, .var 8], .var 9]),
  .ret (.call f_add [.call f_add [.var 8, .call f_shifted [.var 11, .var 3]], .call f_shifted [.var 9, .bin .mul (.int 2) (.var 3)]])]
noncomputable def B_kar (r1 r2 r3 : E) (f_add f_mul_school f_shifted f_split_at f_sub : Nat) : List S := .ite (.or3 (.cmp .eq (.var 2) (.int 0)) (.cmp .lt (.len (.var 0)) (.int 4)) (.cmp .lt (.len (.var 1)) (.int 4))) [.ret (.call f_mul_school [.var 0, .var 1])]
    [] :: K_rest r1 r2 r3 f_add f_shifted f_split_at f_sub
/-- depth 0: the calls of itself are never met -/
noncomputable def B_kar0 (f_add f_mul_school f_shifted f_split_at f_sub : Nat) : List S := B_kar .bot .bot .bot f_add f_mul_school f_shifted f_split_at f_sub
noncomputable def B_karS (f_add f_kar f_mul_school f_shifted f_split_at f_sub : Nat) : List S := B_kar (.call f_kar [.var 4, .var 6, .bin .sub (.var 2) (.int 1)]) (.call f_kar [.var 5, .var 7, .bin .sub (.var 2) (.int 1)])
  (.call f_kar [.call f_add [.var 4, .var 5], .call f_add [.var 6, .var 7], .bin .sub (.var 2) (.int 1)]) f_add f_mul_school f_shifted f_split_at f_sub
theorem lay_drop (m k : Nat) : (lay m).drop k = lay (m / 10000 ^ k) := by
  induction k generalizing m with
  | zero => simp
  | succ k ih =>
    rcases Nat.eq_zero_or_pos m with rfl | h
    · simp [lay_zero]
    · rw [lay_pos h, List.drop_succ_cons, ih, Nat.div_div_eq_div_mul, Nat.pow_succ, Nat.mul_comm 10000]
theorem val_take_mod (m k : Nat) : val ((lay m).take k) = ((m % 10000 ^ k : Nat) : Int) := by
  induction k generalizing m with
  | zero => simp [val, Nat.mod_one]
  | succ k ih =>
    rcases Nat.eq_zero_or_pos m with rfl | h
    · simp [lay_zero, val]
    · rw [lay_pos h, List.take_succ_cons, val, ih, Nat.pow_succ, Nat.mul_comm (10000 ^ k), Nat.mod_mul]
      simp
theorem slice_to {a : List Int} {k : Nat} : sliceL a none (some (k : Int)) = a.take k := by
  rcases Nat.le_total k a.length with h | h
  · simp [sliceL, clip_nat h]
  · have : clip a.length (k : Int) = a.length := by unfold clip; rw [if_neg (by lia)]; lia
    simp [sliceL, this, List.take_of_length_le h]
theorem slice_from {a : List Int} {k : Nat} : sliceL a (some (k : Int)) none = a.drop k := by
  rcases Nat.le_total k a.length with h | h
  · simp only [sliceL, Option.elim, clip_nat h]
    exact List.take_of_length_le (by simp)
  · have : clip a.length (k : Int) = a.length := by unfold clip; rw [if_neg (by lia)]; lia
    simp [sliceL, this, List.drop_eq_nil_of_le h]
section
variable {F : Nat → List D → Res D} {G : Nat → Option D} {σ : List L} {a : E}
@[simp] theorem ev_tupMap {f : Nat} : evalE F G σ (.tupMap f a) = (evalE F G σ a).bind fun d => (mapD F f d).bind tupD := rfl
@[simp] theorem ss_assignMap {i f k : Nat} {r : List S} {Q : Post} : wpSs F G (.assignMap i f k :: r) σ Q = onOwn (σ[k]?) fun x => (mapD F f x).wp (kO F G i r σ Q) (kX Q σ) := rfl
@[simp] theorem onOwn_at {x : D} {p : D → Prop} : onOwn (some (.own x)) p = p x := rfl
noncomputable def splitF : List D → Res D := fn2 cN (cNI 2000) fun m k => .ok (.tup [.ilist (lay (m % 10000 ^ k)), .ilist (lay (m / 10000 ^ k))])
theorem split_ok {ft : Nat} (ht : F ft = trimmedF) (m k : Nat) : Con F G (B_split_at ft) 0 [.ilist (lay m), .int k] (.ok (.tup [.ilist (lay (m % 10000 ^ k)), .ilist (lay (m / 10000 ^ k))])) := by
  have e := trimmed_at ht ((digs_lay m).take k) (val_take_mod m k)
  simp [Con, B_split_at, slice_to, slice_from, e, lay_drop]
theorem split_at' {j : Nat} (h : F j = splitF) {m k : Nat} (hm : m < BN) (hk : k < 2000) : F j [.ilist (lay m), .int k] = .ok (.tup [.ilist (lay (m % 10000 ^ k)), .ilist (lay (m / 10000 ^ k))]) := by
  rw [h, splitF]; exact fn2_at (A := cN) (B := cNI 2000) hm hk
noncomputable def fn3 {α β γ : Type} (A : Cod α) (B : Cod β) (C : Cod γ) (f : α → β → γ → Res D) : List D → Res D
  | [x, y, z] => (match A.dec x, B.dec y, C.dec z with | some a, some b, some c => f a b c | _, _, _ => .stuck)
  | _ => .stuck
theorem fn3_at {α β γ : Type} {A : Cod α} {B : Cod β} {C : Cod γ} {f : α → β → γ → Res D} {a : α} {b : β} {c : γ} (h : A.P a) (h' : B.P b) (h'' : C.P c) : fn3 A B C f [A.enc a, B.enc b, C.enc c] = f a b c := by simp only [fn3, A.back a h, B.back b h', C.back c h'']
theorem fn3_cases {α β γ : Type} {A : Cod α} {B : Cod β} {C : Cod γ} {f : α → β → γ → Res D} (ds : List D) : fn3 A B C f ds = .stuck ∨ ∃ a b c, ds = [A.enc a, B.enc b, C.enc c] ∧ A.P a ∧ B.P b ∧ C.P c := by
  match ds with
  | [] => exact .inl rfl
  | [_] => exact .inl rfl
  | [_, _] => exact .inl rfl
  | [x, y, z] =>
    cases hx : A.dec x with
    | none => exact .inl (by simp only [fn3, hx])
    | some a =>
      cases hy : B.dec y with
      | none => exact .inl (by simp only [fn3, hx, hy])
      | some b =>
        cases hz : C.dec z with
        | none => exact .inl (by simp only [fn3, hx, hy, hz])
        | some c =>
          obtain ⟨rfl, hP⟩ := A.ok _ _ hx
          obtain ⟨rfl, hP'⟩ := B.ok _ _ hy
          obtain ⟨rfl, hP''⟩ := C.ok _ _ hz
          exact .inr ⟨a, b, c, rfl, hP, hP', hP''⟩
  | _ :: _ :: _ :: _ :: _ => exact .inl rfl
theorem pure_fn3 {α β γ : Type} {A : Cod α} {B : Cod β} {C : Cod γ} {f : α → β → γ → Res D} {k : Nat} {fd : Fun} (hF : F k = fn3 A B C f) (hp : fd.params.length = 3) (h : ∀ a b c, A.P a → B.P b → C.P c → Con F G fd.body fd.locals.length [A.enc a, B.enc b, C.enc c] (f a b c)) : PureOk F G k fd := by
  refine pure_cases fun ds => ?_
  rw [hF]
  rcases fn3_cases (A := A) (B := B) (C := C) (f := f) ds with h1 | ⟨a, b, c, rfl, hP, hP', hP''⟩
  · exact .inl h1
  · exact .inr ⟨hp.symm, by rw [fn3_at hP hP' hP'']; exact h a b c hP hP' hP''⟩
@[irreducible] noncomputable def KB : Nat := 10 ^ 100
theorem KB_BN {n : Nat} (h : n < KB) : n < BN := by unfold KB at h; exact e100 h
theorem KB_mul {m n : Nat} (hm : m < KB) (hn : n < KB) : m * n < BN := by
  unfold KB at *
  exact BN_small (Nat.lt_of_lt_of_le (Nat.mul_lt_mul'' hm hn) (by rw [← Nat.pow_add]; exact Nat.pow_le_pow_right (by decide) (by decide)))
noncomputable def karF (j : Nat) : List D → Res D := fn3 (natB KB) (natB KB) (cNI (j + 1)) fun m n _ => .ok (.ilist (lay (m * n)))
theorem kar_at {k j : Nat} (h : F k = karF j) {m n d : Nat} (hm : m < KB) (hn : n < KB) (hd : d < j + 1) : F k [.ilist (lay m), .ilist (lay n), .int d] = .ok (.ilist (lay (m * n))) := by
  rw [h, karF]; exact fn3_at (A := natB KB) (B := natB KB) (C := cNI (j + 1)) hm hn hd
theorem kar0_ok {fa fm fh fp fs : Nat} (hm' : F fm = mulF) (m n d : Nat) (hm : m < KB) (hn : n < KB) (hd : d < 1) : Con F G (B_kar0 fa fm fh fp fs) 9 [.ilist (lay m), .ilist (lay n), .int d] (.ok (.ilist (lay (m * n)))) := by
  have e := mul_at hm' (KB_BN hm) (KB_BN hn)
  have h0 : d = 0 := by lia
  subst h0
  simp [Con, B_kar0, B_kar, e]
theorem parts_le {m k : Nat} : m % 10000 ^ k + m / 10000 ^ k ≤ m := by
  have h := Nat.div_add_mod m (10000 ^ k)
  have h1 : m / 10000 ^ k ≤ 10000 ^ k * (m / 10000 ^ k) := Nat.le_mul_of_pos_left _ (Nat.pow_pos (by decide))
  lia
/-- the three products -/
theorem kara {m n p a b c d : Nat} (hm : m = p * b + a) (hn : n = p * d + c) : a * c + ((a + b) * (c + d) - a * c - b * d) * p + b * d * (p * p) = m * n := by
  have e : (a + b) * (c + d) - a * c - b * d = a * d + b * c := by
    have : (a + b) * (c + d) = a * c + b * d + (a * d + b * c) := by grind
    lia
  rw [e, hm, hn]
  grind
theorem karS_ok {fa fk fm fh fp fs j : Nat} (ha : F fa = addF) (hk : F fk = karF j) (hm' : F fm = mulF) (hh : F fh = shiftedF) (hp : F fp = splitF) (hs : F fs = subF) (m n d : Nat) (hm : m < KB) (hn : n < KB) (hd : d < j + 1 + 1) :
    Con F G (B_karS fa fk fm fh fp fs) 9 [.ilist (lay m), .ilist (lay n), .int d] (.ok (.ilist (lay (m * n)))) := by
  have e := mul_at hm' (KB_BN hm) (KB_BN hn)
  by_cases h0 : d = 0
  · subst h0
    simp [Con, B_karS, B_kar, e]
  have h0' : ¬ (d : Int) = 0 := by lia
  by_cases h1 : (lay m).length < 4
  · have h1' : ((lay m).length : Int) < 4 := by lia
    simp [Con, B_karS, B_kar, h0, h1', e]
  have h1' : ¬ ((lay m).length : Int) < 4 := by lia
  by_cases h2 : (lay n).length < 4
  · have h2' : ((lay n).length : Int) < 4 := by lia
    simp [Con, B_karS, B_kar, h0, h1', h2', e]
  have h2' : ¬ ((lay n).length : Int) < 4 := by lia
  have lm := BN_len (KB_BN hm)
  have ln := BN_len (KB_BN hn)
  obtain ⟨k, hkk⟩ : ∃ k : Nat, k = (if (lay m).length < (lay n).length then (lay n).length else (lay m).length) / 2 := ⟨_, rfl⟩
  have hk5 : k ≤ 500 := by rw [hkk]; split <;> lia
  have mx : maxD (.int (lay m).length) (.int (lay n).length) = .ok (.int ((if (lay m).length < (lay n).length then (lay n).length else (lay m).length : Nat) : Int)) := by
    rw [max_int]
    split <;> split <;> first | rfl | lia
  have dv2 : binop .fdiv (.int ((if (lay m).length < (lay n).length then (lay n).length else (lay m).length : Nat) : Int)) (.int 2) = .ok (.int (k : Int)) := by
    rw [b_divp (by decide) (by decide), hkk]; rfl
  generalize (if (lay m).length < (lay n).length then (lay n).length else (lay m).length) = N at *
  have s1 := split_at' hp (KB_BN hm) (k := k) (by lia)
  have s2 := split_at' hp (KB_BN hn) (k := k) (by lia)
  have hpm := parts_le (m := m) (k := k)
  have hpn := parts_le (m := n) (k := k)
  have km := kara (p := 10000 ^ k) (Nat.div_add_mod m (10000 ^ k)).symm (Nat.div_add_mod n (10000 ^ k)).symm
  generalize m % 10000 ^ k = al at *
  generalize m / 10000 ^ k = ah at *
  generalize n % 10000 ^ k = bl at *
  generalize n / 10000 ^ k = bh at *
  have lal : al < KB := by lia
  have lah : ah < KB := by lia
  have lbl : bl < KB := by lia
  have lbh : bh < KB := by lia
  have lsa : al + ah < KB := by lia
  have lsb : bl + bh < KB := by lia
  have dm : ((d : Int) - 1) = ((d - 1 : Nat) : Int) := by lia
  have r1 := kar_at hk lal lbl (d := d - 1) (by lia)
  have r2 := kar_at hk lah lbh (d := d - 1) (by lia)
  have r3 := kar_at hk lsa lsb (d := d - 1) (by lia)
  rw [← dm] at r1 r2 r3
  have a1 := add_at ha (BN_lt (KB_BN lal)) (BN_lt (KB_BN lah))
  have a2 := add_at ha (BN_lt (KB_BN lbl)) (BN_lt (KB_BN lbh))
  have p1 := KB_mul lal lbl
  have p2 := KB_mul lah lbh
  have p3 := KB_mul lsa lsb
  have pt := KB_mul hm hn
  have ex : (al + ah) * (bl + bh) = al * bl + ah * bh + (al * bh + ah * bl) := by grind
  have u1 := sub_at hs (BN_lt p3) (BN_lt p1) (by lia)
  have u2 := sub_at hs (m := (al + ah) * (bl + bh) - al * bl) (BN_lt (Nat.lt_of_le_of_lt (Nat.sub_le ..) p3)) (BN_lt p2) (by lia)
  obtain ⟨mid, hmid⟩ : ∃ x, x = (al + ah) * (bl + bh) - al * bl - ah * bh := ⟨_, rfl⟩
  rw [← hmid] at u2 km
  have lmid : mid < BN := by rw [hmid]; exact Nat.lt_of_le_of_lt (Nat.sub_le ..) (Nat.lt_of_le_of_lt (Nat.sub_le ..) p3)
  have v1 := shifted_at hh (BN_lt lmid) (k := k) (by lia)
  have v2 := shifted_at hh (BN_lt p2) (k := 2 * k) (by lia)
  have pp : 10000 ^ (2 * k) = 10000 ^ k * 10000 ^ k := by rw [Nat.two_mul, Nat.pow_add]
  rw [pp] at v2
  have m2 : binop .mul (.int 2) (.int k) = .ok (.int (2 * (k : Int))) := b_mul ⟨by decide, by rw [Int.natAbs_natCast]; exact Nat.le_trans hk5 (by decide)⟩
  have c2 : ((2 * k : Nat) : Int) = 2 * (k : Int) := by rw [Int.natCast_mul]; rfl
  rw [c2] at v2
  generalize 10000 ^ k = P at *
  have w1 := add_at ha (BN_lt p1) (n := mid * P) (BN_lt (by lia))
  have w2 := add_at ha (m := al * bl + mid * P) (n := ah * bh * (P * P)) (BN_lt (by lia)) (BN_lt (by lia))
  rw [km] at w2
  simp [Con, B_karS, B_kar, K_rest, h0, h1', h2', mx, -max_int, dv2, -b_divp, s1, s2, r1, r2, r3, a1, a2, u1, u2, m2, v1, v2, w1, w2]
end
end Lim

/-! Law 1-08, plain. -/
namespace Lim
open PySem
set_option linter.unusedVariables false
/-- locals: 0 script, 1 at -/
noncomputable def B_law_cell : List S := [.ite (.cmp .lt (.var 1) (.len (.var 0))) [.ret (.item (.var 0) (.var 1))]
    [],
  .ret (.var 1)]
/-- locals: 0 cell, 1 pick -/
noncomputable def B_law_limb : List S := [.assign 1 (.bin .mod (.var 0) (.int 12)),
  .ite (.cmp .lt (.var 1) (.int 10)) [.ret (.item (.glob 2) (.var 1))]
    [],
  .ret (.bin .mod (.var 0) (.int 10000))]
/-- locals: 0 script, 1 at, 2 count, 3 n, 4 k -/
noncomputable def B_law_number (f_law_cell f_law_limb : Nat) : List S := [.assign 3 (.int 0),
  .for 4 (.range1 (.var 2))
    [.assign 3 (.bin .add (.var 3) (.bin .mul (.call f_law_limb [.call f_law_cell [.var 0, .bin .add (.var 1) (.var 4)]]) (.bin .pow (.int 10000) (.var 4))))],
  .ret (.var 3)]
/-- locals: 0 n, 1 row -/
noncomputable def B_law_limbs : List S := [.assignOwn 1 (.list []),
  .while (.cmp .gt (.var 0) (.int 0))
    [.append 1 (.bin .mod (.var 0) (.int 10000)),
    .assign 0 (.bin .fdiv (.var 0) (.int 10000))],
  .freeze 1,
  .ret (.var 1)]
/-- locals: 0 n, 1 r, 2 bit, 3 t -/
noncomputable def B_law_root : List S := [.assign 1 (.int 0),
  .for 2 (.range3 (.int 13) (.neg (.int 1)) (-1))
    [.assign 3 (.bin .add (.var 1) (.bin .shl (.int 1) (.var 2))),
    .ite (.cmp .le (.bin .mul (.var 3) (.var 3)) (.var 0)) [.assign 1 (.var 3)]
      []],
  .ret (.var 1)]
/-- locals: 0 kind, 1 m, 2 n, 3 roots -/
noncomputable def B_law_skips : List S := [.ite (.cmp .lt (.var 0) (.int 3)) [.ret (.bool false)]
    [],
  .ite (.cmp .lt (.var 0) (.int 7)) [.ret (.cmp .ge (.max (.var 1) (.var 2)) (.bin .pow (.int 10) (.int 32)))]
    [],
  .ite (.cmp .lt (.var 0) (.int 10)) [.ret (.cmp .ge (.var 1) (.bin .pow (.int 10) (.int 24)))]
    [],
  .ite (.and (.cmp .eq (.var 0) (.int 11)) (.cmp .gt (.var 3) (.int 0))) [.ret (.bool true)]
    [],
  .ret (.cmp .ge (.var 1) (.bin .pow (.int 10) (.int 8)))]
/-- locals: 0 kind, 1 m, 2 n, 3 e -/
noncomputable def B_law_due (f_law_root : Nat) : List S := [.ite (.cmp .lt (.var 0) (.int 3)) [.ite (.cmp .lt (.var 1) (.var 2)) [.ret (.tup [.str "ValueError", .tup []])]
      [],
    .ret (.tup [.str "", .tup [.bin .sub (.var 1) (.var 2)]])]
    [],
  .ite (.cmp .lt (.var 0) (.int 7)) [.ret (.tup [.str "", .tup [.bin .mul (.var 1) (.var 2)]])]
    [],
  .ite (.cmp .lt (.var 0) (.int 10)) [.ite (.cmp .eq (.var 2) (.int 0)) [.ret (.tup [.str "ZeroDivisionError", .tup []])]
      [],
    .ret (.tup [.str "", .tup [.bin .fdiv (.var 1) (.var 2), .bin .mod (.var 1) (.var 2)]])]
    [],
  .ite (.cmp .eq (.var 0) (.int 10)) [.ret (.tup [.str "", .tup [.bin .pow (.var 1) (.var 3)]])]
    [],
  .ret (.tup [.str "", .tup [.call f_law_root [.var 1]]])]
/-- locals: 0 kind, 1 x, 2 y, 3 e, 4 got, 5 pair -/
noncomputable def B_law_ran (f_divmod_long f_isqrt_nat f_mul_karatsuba f_pow_nat f_sub : Nat) : List S := [.ite (.cmp .lt (.var 0) (.int 3)) [.try [.assign 4 (.call f_sub [.var 1, .var 2])] .value [.ret (.tup [.str "ValueError", .tup []])],
    .ret (.tup [.str "", .tup [.var 4]])]
    [],
  .ite (.cmp .lt (.var 0) (.int 7)) [.ret (.tup [.str "", .tup [.call f_mul_karatsuba [.var 1, .var 2, .bin .sub (.var 0) (.int 3)]]])]
    [],
  .ite (.cmp .lt (.var 0) (.int 10)) [.try [.assign 5 (.call f_divmod_long [.var 1, .var 2])] .zero [.ret (.tup [.str "ZeroDivisionError", .tup []])],
    .ret (.tup [.str "", .var 5])]
    [],
  .ite (.cmp .eq (.var 0) (.int 10)) [.ret (.tup [.str "", .tup [.call f_pow_nat [.var 1, .var 3]]])]
    [],
  .ret (.tup [.str "", .tup [.call f_isqrt_nat [.var 1]]])]
noncomputable def U_rest (f_law_cell f_law_due f_law_limbs f_law_number f_law_ran f_law_skips f_to_decimal : Nat) : List S := (.unpack [11, 12] (.call f_law_due [.var 6, .itemV 1 (.var 7), .itemV 1 (.var 9), .var 10])) ::
  (.unpack [13, 14] (.call f_law_ran [.var 6, .itemV 2 (.var 7), .itemV 2 (.var 9), .var 10])) ::
  (.ite (.cmp .ne (.var 13) (.var 11)) [.ret (.bool false)]
      []) ::
  (.ite (.cmp .ne (.var 14) (.tupMap f_law_limbs (.var 12))) [.ret (.bool false)]
      []) ::
  (.for 15 (.seq (.var 12))
      [.append 1 (.var 15)]) ::
  (.for 16 (.seq (.var 14))
      [.append 2 (.var 16)]) :: []
noncomputable def L_turn (f_law_cell f_law_due f_law_limbs f_law_number f_law_ran f_law_skips f_to_decimal : Nat) : List S := (.assign 5 (.bin .add (.int 12) (.bin .mul (.int 3) (.var 4)))) ::
  (.assign 6 (.bin .mod (.call f_law_cell [.var 0, .var 5]) (.int 12))) ::
  (.assign 7 (.bin .mod (.call f_law_cell [.var 0, .bin .add (.var 5) (.int 1)]) (.lenV 1))) ::
  (.assign 8 (.call f_law_cell [.var 0, .bin .add (.var 5) (.int 2)])) ::
  (.assign 9 (.bin .mod (.var 8) (.lenV 1))) ::
  (.assign 10 (.bin .mod (.var 8) (.int 5))) ::
  (.ite (.call f_law_skips [.var 6, .itemV 1 (.var 7), .itemV 1 (.var 9), .var 3]) [.cont]
      []) ::
  (.ite (.cmp .eq (.var 6) (.int 11)) [.assign 3 (.bin .add (.var 3) (.int 1))]
      []) :: U_rest f_law_cell f_law_due f_law_limbs f_law_number f_law_ran f_law_skips f_to_decimal
noncomputable def L_last (f_law_cell f_law_due f_law_limbs f_law_number f_law_ran f_law_skips f_to_decimal : Nat) : List S := [.ite (.cmp .ne (.call f_to_decimal [.itemV 2 (.var 17)]) (.strOf (.itemV 1 (.var 17)))) [.ret (.bool false)]
      [],
    .ite (.cmp .ne (.itemV 2 (.var 17)) (.call f_law_limbs [.itemV 1 (.var 17)])) [.ret (.bool false)]
      []]
noncomputable def B_law (f_law_cell f_law_due f_law_limbs f_law_number f_law_ran f_law_skips f_to_decimal : Nat) : List S := [.assignOwn 1 (.list [.call f_law_number [.var 0, .int 1, .item (.glob 1) (.bin .mod (.call f_law_cell [.var 0, .int 0]) (.int 8))], .call f_law_number [.var 0, .int 6, .item (.glob 1) (.bin .mod (.call f_law_cell [.var 0, .int 5]) (.int 8))], .call f_law_number [.var 0, .int 10, .int 2]]),
  .assignMap 2 f_law_limbs 1,
  .assign 3 (.int 0),
  .for 4 (.range1 (.int 4)) (L_turn f_law_cell f_law_due f_law_limbs f_law_number f_law_ran f_law_skips f_to_decimal),
  .for 17 (.range1 (.lenV 1)) (L_last f_law_cell f_law_due f_law_limbs f_law_number f_law_ran f_law_skips f_to_decimal),
  .ret (.bool true)]
noncomputable def funsT : List Fun := [
  ⟨"trimmed", ["a"], ["n"], B_trimmed⟩,
  ⟨"compare", ["a", "b"], ["i"], B_compare⟩,
  ⟨"add", ["a", "b"], ["total", "carry", "i", "t"], B_add⟩,
  ⟨"sub", ["a", "b"], ["rest", "borrow", "i", "t"], B_sub 1 0⟩,
  ⟨"mul_small", ["a", "d"], ["product", "carry", "limb", "t"], B_mul_small⟩,
  ⟨"shifted", ["a", "k"], [], B_shifted⟩,
  ⟨"mul_school", ["a", "b"], ["row", "i", "carry", "j", "t"], B_mul_school 0⟩,
  ⟨"split_at", ["a", "k"], [], B_split_at 0⟩,
  ⟨"mul_karatsuba", ["a", "b", "depth"], ["half", "a_low", "a_high", "b_low", "b_high", "low", "high", "both", "middle"], B_kar0 2 6 5 7 3⟩,
  ⟨"mul_karatsuba", ["a", "b", "depth"], ["half", "a_low", "a_high", "b_low", "b_high", "low", "high", "both", "middle"], B_karS 2 8 6 5 7 3⟩,
  ⟨"mul_karatsuba", ["a", "b", "depth"], ["half", "a_low", "a_high", "b_low", "b_high", "low", "high", "both", "middle"], B_karS 2 9 6 5 7 3⟩,
  ⟨"mul_karatsuba", ["a", "b", "depth"], ["half", "a_low", "a_high", "b_low", "b_high", "low", "high", "both", "middle"], B_karS 2 10 6 5 7 3⟩,
  ⟨"mul_karatsuba", ["a", "b", "depth"], ["half", "a_low", "a_high", "b_low", "b_high", "low", "high", "both", "middle"], B_karS 2 11 6 5 7 3⟩,
  ⟨"divmod_small", ["a", "d"], ["q", "r", "i", "t"], B_divmod_small 0⟩,
  ⟨"trial_digit", ["rem", "b"], ["low", "high", "mid"], B_trial_digit 1 4⟩,
  ⟨"divmod_long", ["a", "b"], ["q", "r", "i", "d"], B_divmod_long 4 3 14 0⟩,
  ⟨"to_decimal", ["a"], ["pieces", "i"], B_to_decimal⟩,
  ⟨"pow_nat", ["a", "e"], ["power", "square"], B_pow_nat 6⟩,
  ⟨"isqrt_nat", ["a"], ["root", "better"], B_isqrt_nat 2 1 15 13 5⟩,
  ⟨"_law_cell", ["script", "at"], [], B_law_cell⟩,
  ⟨"_law_limb", ["cell"], ["pick"], B_law_limb⟩,
  ⟨"_law_number", ["script", "at", "count"], ["n", "k"], B_law_number 19 20⟩,
  ⟨"_law_limbs", ["n"], ["row"], B_law_limbs⟩,
  ⟨"_law_root", ["n"], ["r", "bit", "t"], B_law_root⟩,
  ⟨"_law_skips", ["kind", "m", "n", "roots"], [], B_law_skips⟩,
  ⟨"_law_due", ["kind", "m", "n", "e"], [], B_law_due 23⟩,
  ⟨"_law_ran", ["kind", "x", "y", "e"], ["got", "pair"], B_law_ran 15 18 12 17 3⟩,
  ⟨"law", ["script"], ["nums", "regs", "roots", "step", "at", "kind", "i", "third", "j", "e", "error", "due", "ended", "results", "v", "reg", "k"], B_law 19 25 22 21 26 24 16⟩]
noncomputable def globsT : List (Str × D) := [("BASE", .int 10000), ("_law_sizes", .tup [.int 4, .int 0, .int 3, .int 4, .int 1, .int 4, .int 2, .int 4]), ("_law_often", .tup [.int 0, .int 1, .int 9999, .int 5000, .int 0, .int 9999, .int 1, .int 5000, .int 2, .int 42])]
section
variable {F : Nat → List D → Res D} {G : Nat → Option D}
theorem zl {i : Nat} (h : i < 1000) : i < BN := e100 (Nat.lt_trans h (by decide))
theorem modI {a : Int} {b : Nat} (hb : 0 < b) : ∃ k : Nat, k < b ∧ a % (b : Int) = k := by
  have h1 := Int.emod_nonneg a (b := (b : Int)) (by lia)
  have h2 := Int.emod_lt_of_pos a (b := (b : Int)) (by lia)
  exact ⟨(a % b).toNat, by lia, by lia⟩
noncomputable def cellAt (ns : List Int) (i : Nat) : Int := ns[i]?.getD i
noncomputable def cellF : List D → Res D := fn2 cL (cNI BN) fun ns i => .ok (.int (cellAt ns i))
theorem cell_ok (ns : List Int) (i : Nat) : Con F G B_law_cell 0 [.ilist ns, .int i] (.ok (.int (cellAt ns i))) := by
  simp [Con, B_law_cell]
  refine kIf_dec (fun h => ?_) (fun h => ?_)
  · simp [h, cellAt]
  · simp [cellAt, Nat.le_of_not_lt h]
theorem cell_at {k : Nat} (h : F k = cellF) {ns : List Int} {i : Nat} (hi : i < 1000) : F k [.ilist ns, .int i] = .ok (.int (cellAt ns i)) := by
  rw [h, cellF, fn2_LNI (zl hi)]
noncomputable def oft : List Nat := [0, 1, 9999, 5000, 0, 9999, 1, 5000, 2, 42]
noncomputable def limb (c : Int) : Nat := if (c % 12).toNat < 10 then oft.getD (c % 12).toNat 0 else (c % 10000).toNat
theorem oft_lt : ∀ k : Nat, k < 10 → oft.getD k 0 < 10000 := by decide
theorem limb_lt (c : Int) : limb c < 10000 := by
  unfold limb
  split
  · rename_i h; exact oft_lt _ h
  · lia
noncomputable def limbF : List D → Res D := fn1 cI fun c => .ok (.int (limb c))
theorem oftG {k : Nat} (h : k < 10) : getitem (.tup [.int 0, .int 1, .int 9999, .int 5000, .int 0, .int 9999, .int 1, .int 5000, .int 2, .int 42]) (.int k) = .ok (.int (oft.getD k 0 : Nat)) := by
  rcases (show k = 0 ∨ k = 1 ∨ k = 2 ∨ k = 3 ∨ k = 4 ∨ k = 5 ∨ k = 6 ∨ k = 7 ∨ k = 8 ∨ k = 9 by lia) with rfl | rfl | rfl | rfl | rfl | rfl | rfl | rfl | rfl | rfl <;> rfl
theorem limb_ok (hG : G 2 = some (.tup [.int 0, .int 1, .int 9999, .int 5000, .int 0, .int 9999, .int 1, .int 5000, .int 2, .int 42])) (c : Int) : Con F G B_law_limb 1 [.int c] (.ok (.int (limb c))) := by
  obtain ⟨k, hk, e⟩ : ∃ k : Nat, k < 12 ∧ c % 12 = k := modI (b := 12) (by decide)
  have hp : limb c = if k < 10 then oft.getD k 0 else (c % 10000).toNat := by unfold limb; rw [e, Int.toNat_natCast]
  by_cases h9 : k < 10
  · have h9' : (k : Int) < 10 := by lia
    rw [if_pos h9] at hp
    have g := oftG h9
    generalize oft.getD k 0 = v at *
    simp [Con, B_law_limb, e, hG, hp, h9', g]
  · have h9' : ¬ (k : Int) < 10 := by lia
    rw [if_neg h9] at hp
    have hq : ((limb c : Nat) : Int) = c % 10000 := by rw [hp]; lia
    simp [Con, B_law_limb, e, h9', hq]
theorem limb_at {k : Nat} (h : F k = limbF) {c : Int} : F k [.int c] = .ok (.int (limb c)) := by rw [h, limbF, fn1_I]
noncomputable def numK (ns : List Int) (a : Nat) : Nat → Nat
  | 0 => 0
  | k + 1 => numK ns a k + limb (cellAt ns (a + k)) * 10000 ^ k
theorem numK_lt (ns : List Int) (a : Nat) : ∀ k, numK ns a k < 10000 ^ k
  | 0 => by simp [numK]
  | k + 1 => by
    have h1 := numK_lt ns a k
    have h2 := limb_lt (cellAt ns (a + k))
    have h3 : limb (cellAt ns (a + k)) * 10000 ^ k ≤ 9999 * 10000 ^ k := Nat.mul_le_mul_right _ (by lia)
    rw [numK, Nat.pow_succ]; lia
noncomputable def numF : List D → Res D := fn3 cL (cNI 100) (cNI 5) fun ns a k => .ok (.int (numK ns a k))
theorem num_ok {fc fl : Nat} (hc : F fc = cellF) (hl : F fl = limbF) (ns : List Int) (a k : Nat) (ha : a < 100) (hk : k < 5) : Con F G (B_law_number fc fl) 2 [.ilist ns, .int a, .int k] (.ok (.int (numK ns a k))) := by
  obtain ⟨I, hI⟩ : ∃ I : Nat → List L → Prop, ∀ j σ, I j σ ↔ (∃ x, σ = [.val (.ilist ns), .val (.int a), .val (.int k), .val (.int (numK ns a j)), x]) := ⟨_, fun _ _ => Iff.rfl⟩
  have hkl : k ≤ LIM := Nat.le_trans (Nat.le_of_lt hk) (by decide)
  simp [Con, B_law_number, hkl]
  refine forUp I ((hI _ _).mpr ⟨_, rfl⟩) (fun j σ hj h => ?_) (fun σ h => ?_)
  · obtain ⟨x, rfl⟩ := (hI _ _).mp h
    have a1 : F fc [.ilist ns, .int (a + j)] = .ok (.int (cellAt ns (a + j))) := by
      have := cell_at hc (ns := ns) (i := a + j) (by lia)
      rwa [Int.natCast_add] at this
    have a2 := limb_at hl (c := cellAt ns (a + j))
    have hlt := limb_lt (cellAt ns (a + j))
    have p1 : binop .pow (.int 10000) (.int j) = .ok (.int ((10000 : Int) ^ j)) := by rw [b_pow ⟨by lia, by lia, by decide⟩, Int.toNat_natCast]
    have pj : ((10000 : Int) ^ j) = ((10000 ^ j : Nat) : Int) := by rw [Int.natCast_pow]; rfl
    have pl : 10000 ^ j ≤ 10000 ^ 5 := Nat.pow_le_pow_right (by decide) (by lia)
    rw [pj] at p1
    have m1 : binop .mul (.int (limb (cellAt ns (a + j)))) (.int ((10000 ^ j : Nat) : Int)) = .ok (.int ((limb (cellAt ns (a + j)) : Int) * ((10000 ^ j : Nat) : Int))) := b_mul ⟨by rw [Int.natAbs_natCast]; exact Nat.le_trans (Nat.le_of_lt hlt) (by decide), by rw [Int.natAbs_natCast]; exact Nat.le_trans pl (by decide)⟩
    have en : ((numK ns a (j + 1) : Nat) : Int) = (numK ns a j : Int) + (limb (cellAt ns (a + j)) : Int) * ((10000 ^ j : Nat) : Int) := by rw [numK, Int.natCast_add, Int.natCast_mul]
    generalize 10000 ^ j = w at *
    simp [a1, a2, p1, m1]
    exact (hI _ _).mpr ⟨.val (.int j), by rw [en]⟩
  · obtain ⟨x, rfl⟩ := (hI _ _).mp h
    simp
theorem num_at {j : Nat} (h : F j = numF) {ns : List Int} {a k : Nat} (ha : a < 100) (hk : k < 5) : F j [.ilist ns, .int a, .int k] = .ok (.int (numK ns a k)) := by
  rw [h, numF]; exact fn3_at (A := cL) (B := cNI 100) (C := cNI 5) trivial ha hk
noncomputable def limbsF : List D → Res D := fn1 (cNI BN) fun n => .ok (.ilist (lay n))
theorem limbs_ok (n : Nat) (hn : n < BN) : Con F G B_law_limbs 1 [.int n] (.ok (.ilist (lay n))) := by
  have ln := BN_len hn
  obtain ⟨I, hI⟩ : ∃ I : Nat → List L → Prop, ∀ k σ, I k σ ↔ (∃ out, σ = [.val (.int k), .own (.ilist out)] ∧ out ++ lay k = lay n) := ⟨_, fun _ _ => Iff.rfl⟩
  simp [Con, B_law_limbs]
  refine whileI I n ((hI _ _).mpr ⟨[], rfl, rfl⟩) (fun k σ h => ?_)
  obtain ⟨out, rfl, h1⟩ := (hI _ _).mp h
  by_cases h0 : k = 0
  · subst h0
    rw [lay_zero, List.append_nil] at h1
    simp [h1]
  · have hk : 0 < k := by lia
    have la : out.length ≤ LIM := by
      have := congrArg List.length h1
      rw [List.length_append] at this
      simp only [LIM]; lia
    simp [hk, a_int la]
    refine ⟨k / 10000, by lia, (hI _ _).mpr ⟨_, rfl, ?_⟩⟩
    rw [← h1, lay_pos hk]
    simp
theorem limbs_at {k : Nat} (h : F k = limbsF) {n : Nat} (hn : n < BN) : F k [.int n] = .ok (.ilist (lay n)) := by rw [h, limbsF, fn1_NI hn]
noncomputable def rootF : List D → Res D := fn1 (cNI (10 ^ 8)) fun n => .ok (.int (isq n))
theorem isq_le {n t : Nat} : t * t ≤ n ↔ t ≤ isq n := by
  have h := isq_spec n
  constructor
  · intro ht
    rcases Nat.lt_or_ge (isq n) t with q | q
    · have : (isq n + 1) * (isq n + 1) ≤ t * t := Nat.mul_le_mul q q
      lia
    · exact q
  · intro ht
    exact Nat.le_trans (Nat.mul_le_mul ht ht) h.1
/-- with the loop's start as a variable: else the kernel runs the loop -/
noncomputable def B_rootG (m : Int) : List S := [.assign 1 (.int 0),
  .for 2 (.range3 (.int m) (.neg (.int 1)) (-1))
    [.assign 3 (.bin .add (.var 1) (.bin .shl (.int 1) (.var 2))),
    .ite (.cmp .le (.bin .mul (.var 3) (.var 3)) (.var 0)) [.assign 1 (.var 3)]
      []],
  .ret (.var 1)]
theorem root_gen (m : Int) (hm : m = 13) (n : Nat) (hn : n < 10 ^ 8) : Con F G (B_rootG m) 3 [.int n] (.ok (.int (isq n))) := by
  have hq : isq n < 2 ^ 14 := by
    have h := (isq_spec n).1
    rcases Nat.lt_or_ge (isq n) (2 ^ 14) with q | q
    · exact q
    · have : 2 ^ 14 * 2 ^ 14 ≤ isq n * isq n := Nat.mul_le_mul q q
      lia
  obtain ⟨I, hI⟩ : ∃ I : Nat → List L → Prop, ∀ k σ, I k σ ↔ (∃ x y, k ≤ 14 ∧ σ = [.val (.int n), .val (.int (isq n / 2 ^ k * 2 ^ k : Nat)), x, y]) := ⟨_, fun _ _ => Iff.rfl⟩
  have h14 : isq n / 2 ^ 14 * 2 ^ 14 = 0 := by rw [Nat.div_eq_of_lt hq, Nat.zero_mul]
  have hm1 : m.natAbs ≤ 1000000 := by lia
  have hm2 : (m + 1).toNat = 14 := by lia
  simp [Con, B_rootG, LIM, hm1, hm2]
  refine forDown (n := 14) (hm.trans rfl) I ((hI _ _).mpr ⟨_, _, Nat.le_refl _, by rw [h14]; rfl⟩) (fun k σ hk h => ?_) (fun σ h => ?_)
  · obtain ⟨x, y, hk14, rfl⟩ := (hI _ _).mp h
    obtain ⟨r, hr⟩ : ∃ r, r = isq n / 2 ^ (k + 1) * 2 ^ (k + 1) := ⟨_, rfl⟩
    have sh : binop .shl (.int 1) (.int k) = .ok (.int ((2 ^ k : Nat) : Int)) := by rw [b_shl ⟨by lia, by lia, by decide⟩, Int.toNat_natCast, Int.one_mul, Int.natCast_pow]; rfl
    have hrl : r ≤ isq n := by rw [hr]; exact Nat.div_mul_le_self ..
    have pk : 2 ^ k ≤ 2 ^ 14 := Nat.pow_le_pow_right (by decide) (by lia)
    obtain ⟨t, ht⟩ : ∃ t, t = r + 2 ^ k := ⟨_, rfl⟩
    have tc : (r : Int) + ((2 ^ k : Nat) : Int) = (t : Int) := by rw [ht, Int.natCast_add]
    have tb : t ≤ 10 ^ 6 := by lia
    have m1 : binop .mul (.int t) (.int t) = .ok (.int ((t * t : Nat) : Int)) := (b_mul ⟨by rw [Int.natAbs_natCast]; exact Nat.le_trans tb (by decide), by rw [Int.natAbs_natCast]; exact Nat.le_trans tb (by decide)⟩).trans (by rw [Int.natCast_mul])
    have half : isq n / 2 ^ (k + 1) = isq n / 2 ^ k / 2 := by rw [Nat.pow_succ, Nat.div_div_eq_div_mul]
    have p0 : 0 < 2 ^ k := Nat.pow_pos (by decide)
    obtain ⟨u, hu⟩ : ∃ u, u = isq n / 2 ^ k := ⟨_, rfl⟩
    have hr2 : r = u / 2 * 2 * 2 ^ k := by rw [hr, half, ← hu, Nat.pow_succ, Nat.mul_assoc, Nat.mul_comm 2]
    have hle : t ≤ isq n ↔ u % 2 = 1 := by
      have e1 : t = (u / 2 * 2 + 1) * 2 ^ k := by rw [ht, hr2, Nat.add_mul, Nat.one_mul]
      rw [e1, ← Nat.le_div_iff_mul_le p0, ← hu]
      lia
    obtain ⟨w, hw⟩ : ∃ w, w = 2 ^ k := ⟨_, rfl⟩
    rw [← hw] at sh tc
    rw [← hr]
    by_cases hc : t * t ≤ n
    · have hm := hle.mp (isq_le.mp hc)
      have hc' : ((t * t : Nat) : Int) ≤ (n : Int) := by lia
      generalize t * t = tt at *
      simp [sh, tc, m1, hc']
      refine (hI _ _).mpr ⟨.val (.int k), .val (.int t), Nat.le_of_lt hk, ?_⟩
      rw [← hu, show t = u * 2 ^ k by rw [ht, hr2, ← Nat.add_one_mul]; congr 1; lia]
    · have hm : ¬ u % 2 = 1 := fun q => hc (isq_le.mpr (hle.mpr q))
      have hc' : ¬ ((t * t : Nat) : Int) ≤ (n : Int) := by lia
      generalize t * t = tt at *
      simp [sh, tc, m1, hc']
      refine (hI _ _).mpr ⟨.val (.int k), .val (.int t), Nat.le_of_lt hk, ?_⟩
      rw [← hu, show r = u * 2 ^ k by rw [hr2]; congr 1; lia]
  · obtain ⟨x, y, _, rfl⟩ := (hI _ _).mp h
    simp
theorem root_ok (n : Nat) (hn : n < 10 ^ 8) : Con F G B_law_root 3 [.int n] (.ok (.int (isq n))) := root_gen 13 rfl n hn
theorem root_at {k : Nat} (h : F k = rootF) {n : Nat} (hn : n < 10 ^ 8) : F k [.int n] = .ok (.int (isq n)) := by rw [h, rootF]; exact fn1_at (A := cNI (10 ^ 8)) hn

/-- what a step is due -/
noncomputable def out (kind m n e : Nat) : Str × List Nat :=
  if kind < 3 then (if m < n then (Str.ofString "ValueError", []) else (Str.ofString "", [m - n]))
  else if kind < 7 then (Str.ofString "", [m * n])
  else if kind < 10 then (if n = 0 then (Str.ofString "ZeroDivisionError", []) else (Str.ofString "", [m / n, m % n]))
  else if kind = 10 then (Str.ofString "", [m ^ e]) else (Str.ofString "", [isq m])
@[irreducible] noncomputable def N32 : Int := 100000000000000000000000000000000
@[irreducible] noncomputable def N24 : Int := 1000000000000000000000000
@[irreducible] noncomputable def N8 : Int := 100000000
@[irreducible] noncomputable def geB (b m : Int) : Bool := decide (b ≤ m)
theorem c_geB {a b : Int} : cmpop .ge (.int a) (.int b) = .ok (.bool (geB b a)) := by unfold geB; rfl
noncomputable def skip (kind m n roots : Nat) : Bool :=
  if kind < 3 then false else if kind < 7 then geB N32 ((if m < n then n else m : Nat) : Int) else if kind < 10 then geB N24 m else if kind = 11 ∧ 0 < roots then true else geB N8 m
noncomputable def RB : Nat := 10 ^ 64
open Classical in
noncomputable def valIf (P : List D → D → Prop) : List D → Res D := fun ds => if h : ∃ d, P ds d then .ok (Classical.choose h) else .stuck
theorem valIf_at {P : List D → D → Prop} {ds : List D} {d : D} (h : P ds d) (hu : ∀ d', P ds d' → d' = d) : valIf P ds = .ok d := by
  unfold valIf
  have hex : ∃ d, P ds d := ⟨d, h⟩
  rw [dif_pos hex, hu _ (Classical.choose_spec hex)]
theorem pure_valIf {P : List D → D → Prop} {k : Nat} {fd : Fun} (hF : F k = valIf P) (h : ∀ ds d, P ds d → ds.length = fd.params.length ∧ Con F G fd.body fd.locals.length ds (.ok d)) : PureOk F G k fd := by
  intro ds
  rw [hF]
  unfold valIf
  by_cases hex : ∃ d, P ds d
  · rw [dif_pos hex]; exact h ds _ (Classical.choose_spec hex)
  · rw [dif_neg hex]; trivial
noncomputable def skP (ds : List D) (d : D) : Prop := ∃ kind m n r : Nat, kind < 12 ∧ ds = [.int kind, .int m, .int n, .int r] ∧ d = .bool (skip kind m n r)
theorem skP_u {ds : List D} {d d' : D} (h : skP ds d) (h' : skP ds d') : d' = d := by
  obtain ⟨k, m, n, r, _, rfl, rfl⟩ := h
  obtain ⟨k', m', n', r', _, e, rfl⟩ := h'
  simp only [List.cons.injEq, D.int.injEq, and_true] at e
  obtain ⟨e1, e2, e3, e4⟩ := e
  rw [Int.ofNat.inj e1, Int.ofNat.inj e2, Int.ofNat.inj e3, Int.ofNat.inj e4]
theorem p32 : binop .pow (.int 10) (.int 32) = .ok (.int N32) := (b_pow ⟨by decide, by decide, by decide⟩).trans (congrArg (fun z => Res.ok (D.int z)) (by unfold N32; decide +kernel : (10 : Int) ^ (32 : Int).toNat = N32))
theorem p24 : binop .pow (.int 10) (.int 24) = .ok (.int N24) := (b_pow ⟨by decide, by decide, by decide⟩).trans (congrArg (fun z => Res.ok (D.int z)) (by unfold N24; decide +kernel : (10 : Int) ^ (24 : Int).toNat = N24))
theorem p8 : binop .pow (.int 10) (.int 8) = .ok (.int N8) := (b_pow ⟨by decide, by decide, by decide⟩).trans (congrArg (fun z => Res.ok (D.int z)) (by unfold N8; decide +kernel : (10 : Int) ^ (8 : Int).toNat = N8))
theorem sk_3 {k m n r : Nat} (h3 : k < 3) : Con F G B_law_skips 0 [.int k, .int m, .int n, .int r] (.ok (.bool false)) := by
  have h3' : (k : Int) < 3 := by lia
  simp [Con, B_law_skips, h3']
theorem sk_7 {k m n r : Nat} (h3 : ¬ k < 3) (h7 : k < 7) : Con F G B_law_skips 0 [.int k, .int m, .int n, .int r] (.ok (.bool (geB N32 ((if m < n then n else m : Nat) : Int)))) := by
  have h3' : ¬ (k : Int) < 3 := by lia
  have h7' : (k : Int) < 7 := by lia
  have mx : maxD (.int m) (.int n) = .ok (.int ((if m < n then n else m : Nat) : Int)) := by
    rw [max_int]
    split <;> split <;> first | rfl | lia
  have q := p32
  generalize (if m < n then n else m) = x at *
  simp [Con, B_law_skips, h3', h7', mx, -max_int, q, c_geB, -c_ge]
theorem sk_10 {k m n r : Nat} (h7 : ¬ k < 7) (h10 : k < 10) : Con F G B_law_skips 0 [.int k, .int m, .int n, .int r] (.ok (.bool (geB N24 m))) := by
  have h3' : ¬ (k : Int) < 3 := by lia
  have h7' : ¬ (k : Int) < 7 := by lia
  have h10' : (k : Int) < 10 := by lia
  have q := p24
  simp [Con, B_law_skips, h3', h7', h10', q, c_geB, -c_ge]
theorem sk_11 {k m n r : Nat} (h11 : k = 11) (hr : 0 < r) : Con F G B_law_skips 0 [.int k, .int m, .int n, .int r] (.ok (.bool true)) := by
  have h3' : ¬ (k : Int) < 3 := by lia
  have h7' : ¬ (k : Int) < 7 := by lia
  have h10' : ¬ (k : Int) < 10 := by lia
  have hc : cmpop .eq (.int k) (.int 11) = .ok (.bool true) := by rw [c_eq, decide_eq_true (by lia)]
  clear h11
  simp [Con, B_law_skips, h3', h7', h10', hc, -c_eq, hr]
theorem sk_11' {k m n r : Nat} (h11 : k = 11) (hr : ¬ 0 < r) : Con F G B_law_skips 0 [.int k, .int m, .int n, .int r] (.ok (.bool (geB N8 m))) := by
  have h3' : ¬ (k : Int) < 3 := by lia
  have h7' : ¬ (k : Int) < 7 := by lia
  have h10' : ¬ (k : Int) < 10 := by lia
  have hc : cmpop .eq (.int k) (.int 11) = .ok (.bool true) := by rw [c_eq, decide_eq_true (by lia)]
  have q := p8
  clear h11
  simp [Con, B_law_skips, h3', h7', h10', hc, -c_eq, hr, q, c_geB, -c_ge]
theorem sk_12 {k m n r : Nat} (h10 : k = 10) : Con F G B_law_skips 0 [.int k, .int m, .int n, .int r] (.ok (.bool (geB N8 m))) := by
  have h3' : ¬ (k : Int) < 3 := by lia
  have h7' : ¬ (k : Int) < 7 := by lia
  have h10' : ¬ (k : Int) < 10 := by lia
  have hc : cmpop .eq (.int k) (.int 11) = .ok (.bool false) := by rw [c_eq, decide_eq_false (by lia)]
  have q := p8
  clear h10
  simp [Con, B_law_skips, h3', h7', h10', hc, -c_eq, q, c_geB, -c_ge]
theorem sk_ok (ds : List D) (d : D) (h : skP ds d) : Con F G B_law_skips 0 ds (.ok d) := by
  obtain ⟨k, m, n, r, hk, rfl, rfl⟩ := h
  unfold skip
  by_cases h3 : k < 3
  · rw [if_pos h3]; exact sk_3 h3
  rw [if_neg h3]
  by_cases h7 : k < 7
  · rw [if_pos h7]; exact sk_7 h3 h7
  rw [if_neg h7]
  by_cases h10 : k < 10
  · rw [if_pos h10]; exact sk_10 h7 h10
  rw [if_neg h10]
  by_cases h11 : k = 11
  · by_cases hr : 0 < r
    · rw [if_pos ⟨h11, hr⟩]; exact sk_11 h11 hr
    · rw [if_neg fun q => hr q.2]; exact sk_11' h11 hr
  · rw [if_neg fun q => h11 q.1]; exact sk_12 (by lia)
theorem sk_at {j : Nat} (h : F j = valIf skP) {k m n r : Nat} (hk : k < 12) : F j [.int k, .int m, .int n, .int r] = .ok (.bool (skip k m n r)) := by
  rw [h]; exact valIf_at ⟨k, m, n, r, hk, rfl, rfl⟩ fun d' h' => skP_u ⟨k, m, n, r, hk, rfl, rfl⟩ h'
theorem c_eqT {a b : Int} (h : a = b) : cmpop .eq (.int a) (.int b) = .ok (.bool true) := by rw [c_eq, decide_eq_true h]
theorem c_eqF {a b : Int} (h : ¬ a = b) : cmpop .eq (.int a) (.int b) = .ok (.bool false) := by rw [c_eq, decide_eq_false h]
theorem RB_FAC {n : Nat} (h : n < RB) : ((n : Int)).natAbs ≤ FAC := by rw [Int.natAbs_natCast]; exact Nat.le_trans (Nat.le_of_lt h) (by unfold RB; decide)
theorem RB_BN {n : Nat} (h : n < RB) : n < BN := e100 (Nat.lt_trans h (by unfold RB; decide))
noncomputable def duD (o : Str × List Nat) : D := .tup [.str o.1, .tup (o.2.map fun (v : Nat) => D.int v)]
noncomputable def rnD (o : Str × List Nat) : D := .tup [.str o.1, .tup (o.2.map fun (v : Nat) => D.ilist (lay v))]
structure Good (kind a b ex : Nat) : Prop where
  k : kind < 12
  m : a < RB
  n : b < RB
  e : ex < 5
  s : 10 ≤ kind → a < 10 ^ 8
noncomputable def duP (ds : List D) (d : D) : Prop := ∃ kind m n e : Nat, Good kind m n e ∧ ds = [.int kind, .int m, .int n, .int e] ∧ d = duD (out kind m n e)
noncomputable def rnP (ds : List D) (d : D) : Prop := ∃ kind m n e : Nat, Good kind m n e ∧ ds = [.int kind, .ilist (lay m), .ilist (lay n), .int e] ∧ d = rnD (out kind m n e)
theorem duP_u {ds : List D} {d d' : D} (h : duP ds d) (h' : duP ds d') : d' = d := by
  obtain ⟨k, m, n, r, _, rfl, rfl⟩ := h
  obtain ⟨k', m', n', r', _, e, rfl⟩ := h'
  simp only [List.cons.injEq, D.int.injEq, and_true] at e
  obtain ⟨e1, e2, e3, e4⟩ := e
  rw [Int.ofNat.inj e1, Int.ofNat.inj e2, Int.ofNat.inj e3, Int.ofNat.inj e4]
theorem rnP_u {ds : List D} {d d' : D} (h : rnP ds d) (h' : rnP ds d') : d' = d := by
  obtain ⟨k, m, n, r, _, rfl, rfl⟩ := h
  obtain ⟨k', m', n', r', _, e, rfl⟩ := h'
  simp only [List.cons.injEq, D.int.injEq, D.ilist.injEq, and_true] at e
  obtain ⟨e1, e2, e3, e4⟩ := e
  rw [Int.ofNat.inj e1, lay_inj e2, lay_inj e3, Int.ofNat.inj e4]
theorem du_ok {fr : Nat} (hr : F fr = rootF) (ds : List D) (d : D) (h : duP ds d) : Con F G (B_law_due fr) 0 ds (.ok d) := by
  obtain ⟨k, m, n, e, g, rfl, rfl⟩ := h
  unfold out
  by_cases h3 : k < 3
  · have h3' : (k : Int) < 3 := by lia
    rw [if_pos h3]
    by_cases hlt : m < n
    · rw [if_pos hlt]; simp [Con, B_law_due, h3', hlt, duD]
    · rw [if_neg hlt]
      have e1 : ((m - n : Nat) : Int) = (m : Int) - n := by lia
      simp [Con, B_law_due, h3', hlt, duD, e1]
  have h3' : ¬ (k : Int) < 3 := by lia
  rw [if_neg h3]
  by_cases h7 : k < 7
  · have h7' : (k : Int) < 7 := by lia
    rw [if_pos h7]
    have m1 : binop .mul (.int m) (.int n) = .ok (.int ((m * n : Nat) : Int)) := (b_mul ⟨RB_FAC g.m, RB_FAC g.n⟩).trans (by rw [Int.natCast_mul])
    generalize m * n = p at *
    simp [Con, B_law_due, h3', h7', m1, duD]
  have h7' : ¬ (k : Int) < 7 := by lia
  rw [if_neg h7]
  by_cases h10 : k < 10
  · have h10' : (k : Int) < 10 := by lia
    rw [if_pos h10]
    by_cases n0 : n = 0
    · have c := c_eqT (a := (n : Int)) (b := 0) (by lia)
      rw [if_pos n0]
      clear n0
      simp [Con, B_law_due, h3', h7', h10', c, -c_eq, duD]
    · have c := c_eqF (a := (n : Int)) (b := 0) (by lia)
      have n0' : (n : Int) ≠ 0 := by lia
      rw [if_neg n0]
      have f1 : binop .fdiv (.int m) (.int n) = .ok (.int ((m / n : Nat) : Int)) := (b_fdiv ⟨n0', RB_FAC g.n⟩).trans (by rw [Int.fdiv_eq_ediv_of_nonneg _ (Int.natCast_nonneg _)]; rfl)
      have f2 : binop .mod (.int m) (.int n) = .ok (.int ((m % n : Nat) : Int)) := (b_mod n0').trans (by rw [Int.fmod_eq_emod_of_nonneg _ (Int.natCast_nonneg _)]; rfl)
      generalize m / n = q at *
      generalize m % n = r at *
      simp [Con, B_law_due, h3', h7', h10', c, -c_eq, f1, f2, duD]
  have h10' : ¬ (k : Int) < 10 := by lia
  rw [if_neg h10]
  have h8 := g.s (by lia)
  by_cases hk : k = 10
  · have c := c_eqT (a := (k : Int)) (b := 10) (by lia)
    rw [if_pos hk]
    have p1 : binop .pow (.int m) (.int e) = .ok (.int ((m ^ e : Nat) : Int)) := (b_pow ⟨by lia, by have := g.e; lia, by rw [Int.natAbs_natCast]; exact Nat.lt_trans h8 (by decide)⟩).trans (by rw [Int.toNat_natCast, Int.natCast_pow])
    generalize m ^ e = p at *
    clear hk
    simp [Con, B_law_due, h3', h7', h10', c, -c_eq, p1, duD]
  · have c := c_eqF (a := (k : Int)) (b := 10) (by lia)
    rw [if_neg hk]
    have r1 := root_at hr h8
    generalize isq m = p at *
    simp [Con, B_law_due, h3', h7', h10', c, -c_eq, r1, duD]
theorem du_at {j : Nat} (h : F j = valIf duP) {k m n e : Nat} (g : Good k m n e) : F j [.int k, .int m, .int n, .int e] = .ok (duD (out k m n e)) := by
  rw [h]; exact valIf_at ⟨k, m, n, e, g, rfl, rfl⟩ fun d' h' => duP_u ⟨k, m, n, e, g, rfl, rfl⟩ h'
theorem rn_ok {fd fi fk fp fs : Nat} (hd : F fd = divmodF) (hi : F fi = isqrtF) (hk' : F fk = karF 4) (hp : F fp = powF) (hs : F fs = subF) (ds : List D) (d : D) (h : rnP ds d) : Con F G (B_law_ran fd fi fk fp fs) 2 ds (.ok d) := by
  obtain ⟨k, m, n, e, g, rfl, rfl⟩ := h
  have bm := RB_BN g.m
  have bn := RB_BN g.n
  unfold out
  by_cases h3 : k < 3
  · have h3' : (k : Int) < 3 := by lia
    rw [if_pos h3]
    by_cases hlt : m < n
    · have es := sub_at_exc hs (BN_lt bm) (BN_lt bn) hlt
      rw [if_pos hlt]; simp [Con, B_law_ran, h3', es, rnD]
    · have es := sub_at hs (BN_lt bm) (BN_lt bn) (Nat.le_of_not_lt hlt)
      rw [if_neg hlt]
      simp [Con, B_law_ran, h3', es, rnD]
  have h3' : ¬ (k : Int) < 3 := by lia
  rw [if_neg h3]
  by_cases h7 : k < 7
  · have h7' : (k : Int) < 7 := by lia
    rw [if_pos h7]
    have kb : ∀ {x : Nat}, x < RB → x < KB := fun {x} hx => by unfold KB; exact Nat.lt_trans hx (by unfold RB; decide)
    have e1 := kar_at hk' (kb g.m) (kb g.n) (d := k - 3) (by lia)
    have e2 : ((k - 3 : Nat) : Int) = (k : Int) - 3 := by lia
    rw [e2] at e1
    generalize m * n = p at *
    simp [Con, B_law_ran, h3', h7', e1, rnD]
  have h7' : ¬ (k : Int) < 7 := by lia
  rw [if_neg h7]
  by_cases h10 : k < 10
  · have h10' : (k : Int) < 10 := by lia
    rw [if_pos h10]
    by_cases n0 : n = 0
    · have es := divmod_at_exc hd bm
      rw [if_pos n0, n0]
      simp [Con, B_law_ran, h3', h7', h10', es, rnD]
    · have es := divmod_at hd bm bn (Nat.pos_of_ne_zero n0)
      rw [if_neg n0]
      simp [Con, B_law_ran, h3', h7', h10', es, rnD]
  have h10' : ¬ (k : Int) < 10 := by lia
  rw [if_neg h10]
  have h8 := g.s (by lia)
  by_cases hk : k = 10
  · have c := c_eqT (a := (k : Int)) (b := 10) (by lia)
    rw [if_pos hk]
    have hpw : m ^ e < 10 ^ 100 := by
      refine Nat.lt_of_le_of_lt (Nat.pow_le_pow_left (Nat.le_of_lt h8) e) ?_
      rw [← Nat.pow_mul]
      exact Nat.pow_lt_pow_right (by decide) (by have := g.e; lia)
    have es := pow_at hp bm (e := e) (zl (by have := g.e; lia)) (e100 hpw)
    generalize m ^ e = p at *
    clear hk
    simp [Con, B_law_ran, h3', h7', h10', c, -c_eq, es, rnD]
  · have c := c_eqF (a := (k : Int)) (b := 10) (by lia)
    rw [if_neg hk]
    have es := isqrt_at hi (m := m) (Nat.lt_trans h8 (by unfold TN; decide))
    generalize isq m = p at *
    simp [Con, B_law_ran, h3', h7', h10', c, -c_eq, es, rnD]
theorem rn_at {j : Nat} (h : F j = valIf rnP) {k m n e : Nat} (g : Good k m n e) : F j [.int k, .ilist (lay m), .ilist (lay n), .int e] = .ok (rnD (out k m n e)) := by
  rw [h]; exact valIf_at ⟨k, m, n, e, g, rfl, rfl⟩ fun d' h' => rnP_u ⟨k, m, n, e, g, rfl, rfl⟩ h'
@[simp] theorem forS_nil {b : List S} {i : Nat} {σ : List L} {Q : Post} : forS F G b i [] σ Q = Q .next σ := rfl
@[simp] theorem forS_cons {b : List S} {i : Nat} {v : D} {r : List D} {σ : List L} {Q : Post} : forS F G b i (v :: r) σ Q = wpSs F G b (σ.set i (.val v)) (Stp Q fun σ' => forS F G b i r σ' Q) := rfl
noncomputable def numsD (l : List Nat) : D := .ilist (l.map fun (v : Nat) => (v : Int))
noncomputable def regsD (l : List Nat) : D := .list (l.map fun (v : Nat) => D.ilist (lay v))
theorem num_i {l : List Nat} {k : Nat} (h : k < l.length) : getitem (numsD l) (.int k) = .ok (.int (l[k] : Nat)) := by
  have := g_int (ns := l.map fun (v : Nat) => (v : Int)) (k := k) (by simpa using h)
  rw [numsD, this]; simp
theorem reg_i {l : List Nat} {k : Nat} (h : k < l.length) : getitem (regsD l) (.int k) = .ok (.ilist (lay l[k])) := by
  show (if (0 : Int) ≤ (k : Int) then optR (l.map fun (v : Nat) => D.ilist (lay v))[((k : Nat) : Int).toNat]? id else .stuck) = _
  rw [if_pos (Int.natCast_nonneg k), Int.toNat_natCast]
  simp [h, optR]
theorem num_l {l : List Nat} : lenOf (numsD l) = .ok (.int l.length) := by simp [numsD]
theorem num_a {l : List Nat} {v : Nat} (h : l.length ≤ 100) : appendD (numsD l) (.int v) = some (numsD (l ++ [v])) := by
  rw [numsD, a_int (by simp; exact Nat.le_trans h (by decide))]; simp [numsD]
theorem reg_a {l : List Nat} {v : Nat} (h : l.length ≤ 100) : appendD (regsD l) (.ilist (lay v)) = some (regsD (l ++ [v])) := by
  rw [regsD, a_list (by simp; exact Nat.le_trans h (by decide))]; simp [regsD]
theorem out_lt {k m n e v : Nat} (g : Good k m n e) (hs : 3 ≤ k → k < 7 → m < 10 ^ 32 ∧ n < 10 ^ 32) (h : v ∈ (out k m n e).2) : v < RB := by
  unfold out at h
  have hm := g.m
  have hn := g.n
  by_cases h3 : k < 3
  · rw [if_pos h3] at h
    by_cases hlt : m < n
    · rw [if_pos hlt] at h; cases h
    · rw [if_neg hlt] at h
      rw [List.mem_singleton.mp h]; exact Nat.lt_of_le_of_lt (Nat.sub_le ..) hm
  rw [if_neg h3] at h
  by_cases h7 : k < 7
  · rw [if_pos h7] at h
    obtain ⟨h1, h2⟩ := hs (by lia) h7
    rw [List.mem_singleton.mp h]
    exact Nat.lt_of_lt_of_le (Nat.mul_lt_mul'' h1 h2) (by unfold RB; decide)
  rw [if_neg h7] at h
  by_cases h10 : k < 10
  · rw [if_pos h10] at h
    by_cases n0 : n = 0
    · rw [if_pos n0] at h; cases h
    · rw [if_neg n0] at h
      rcases List.mem_cons.mp h with h | h
      · rw [h]; exact Nat.lt_of_le_of_lt (Nat.div_le_self ..) hm
      · rw [List.mem_singleton.mp h]; exact Nat.lt_of_le_of_lt (Nat.mod_le ..) hm
  rw [if_neg h10] at h
  have h8 := g.s (by lia)
  by_cases hk : k = 10
  · rw [if_pos hk] at h
    rw [List.mem_singleton.mp h]
    refine Nat.lt_of_le_of_lt (Nat.pow_le_pow_left (Nat.le_of_lt h8) e) ?_
    rw [← Nat.pow_mul]
    exact Nat.pow_lt_pow_right (by decide) (by have := g.e; lia)
  · rw [if_neg hk] at h
    rw [List.mem_singleton.mp h]
    have : isq m ≤ m := by
      rcases Nat.eq_zero_or_pos (isq m) with q | q
      · lia
      · exact Nat.le_trans (Nat.le_mul_of_pos_left _ q) (isq_spec m).1
    lia
theorem out_shape (k m n e : Nat) : (out k m n e).2 = [] ∨ (∃ a, (out k m n e).2 = [a]) ∨ ∃ a b, (out k m n e).2 = [a, b] := by
  unfold out
  repeat' split
  all_goals first | exact .inl rfl | exact .inr (.inl ⟨_, rfl⟩) | exact .inr (.inr ⟨_, _, rfl⟩)
theorem skip_f {k m n r : Nat} (h : skip k m n r = false) : (3 ≤ k → k < 7 → m < 10 ^ 32 ∧ n < 10 ^ 32) ∧ (10 ≤ k → m < 10 ^ 8) := by
  have g32 : ∀ x : Nat, geB N32 x = false → x < 10 ^ 32 := fun x hx => by
    unfold geB N32 at hx
    have := of_decide_eq_false hx
    lia
  have g8 : ∀ x : Nat, geB N8 x = false → x < 10 ^ 8 := fun x hx => by
    unfold geB N8 at hx
    have := of_decide_eq_false hx
    lia
  unfold skip at h
  refine ⟨fun h3 h7 => ?_, fun h10 => ?_⟩
  · rw [if_neg (by lia), if_pos h7] at h
    have := g32 _ h
    by_cases q : m < n
    · rw [if_pos q] at this; exact ⟨Nat.lt_trans q this, this⟩
    · rw [if_neg q] at this; exact ⟨this, Nat.lt_of_le_of_lt (Nat.le_of_not_lt q) this⟩
  · rw [if_neg (by lia), if_neg (by lia), if_neg (by lia)] at h
    by_cases q : k = 11 ∧ 0 < r
    · rw [if_pos q] at h; cases h
    · rw [if_neg q] at h; exact g8 _ h
structure Hs (F : Nat → List D → Res D) (fc fd fl fn fr fs ft : Nat) : Prop where
  c : F fc = cellF
  d : F fd = valIf duP
  l : F fl = limbsF
  n : F fn = numF
  r : F fr = valIf rnP
  s : F fs = valIf skP
  t : F ft = toDecF
variable {fc fd fl fn fr fs ft : Nat} (H : Hs F fc fd fl fn fr fs ft)
theorem tm0 {f : Nat} : (mapD F f (.tup [])).bind tupD = .ok (.tup []) := rfl
theorem tm1 {f : Nat} (h : F f = limbsF) {a : Nat} (ha : a < RB) : (mapD F f (.tup [.int a])).bind tupD = .ok (.tup [.ilist (lay a)]) := by
  have e := limbs_at h (RB_BN ha)
  simp [mapD, mapR, e, mkList, allInts, tupD, LIM]
theorem tm2 {f : Nat} (h : F f = limbsF) {a b : Nat} (ha : a < RB) (hb : b < RB) : (mapD F f (.tup [.int a, .int b])).bind tupD = .ok (.tup [.ilist (lay a), .ilist (lay b)]) := by
  have e := limbs_at h (RB_BN ha)
  have e' := limbs_at h (RB_BN hb)
  simp [mapD, mapR, e, e', mkList, allInts, tupD, LIM]
theorem map3 {f : Nat} (h : F f = limbsF) {a b c : Nat} (ha : a < RB) (hb : b < RB) (hc : c < RB) : mapD F f (numsD [a, b, c]) = .ok (regsD [a, b, c]) := by
  have e := limbs_at h (RB_BN ha)
  have e' := limbs_at h (RB_BN hb)
  have e'' := limbs_at h (RB_BN hc)
  simp [mapD, mapR, numsD, regsD, e, e', e'', mkList, allInts, LIM]
/-- the frame between the steps -/
noncomputable def St8 (ns : List Int) (l : List Nat) (r : Nat) (x : List L) : List L := .val (.ilist ns) :: .own (numsD l) :: .own (regsD l) :: .val (.int r) :: x
noncomputable def Fine (l : List Nat) (k : Nat) : Prop := 3 ≤ l.length ∧ l.length ≤ 3 + 2 * k ∧ ∀ v ∈ l, v < RB
theorem Fine.get {l : List Nat} {k : Nat} (h : Fine l k) {i : Nat} (hi : i < l.length) : l[i] < RB := h.2.2 _ (List.getElem_mem hi)
theorem Fine.up {l : List Nat} {k : Nat} (h : Fine l k) : Fine l (k + 1) := ⟨h.1, by have := h.2.1; lia, h.2.2⟩
theorem Fine.add {l : List Nat} {k : Nat} (h : Fine l k) {q : List Nat} (hq : q.length ≤ 2) (hv : ∀ v ∈ q, v < RB) : Fine (l ++ q) (k + 1) :=
  ⟨by rw [List.length_append]; have := h.1; lia, by rw [List.length_append]; have := h.2.1; lia, fun v hm => by
    rcases List.mem_append.mp hm with hm | hm
    · exact h.2.2 v hm
    · exact hv v hm⟩
theorem d_str {s : Str} : dep (.str s) ≤ 20 := by simp [dep]
theorem d_t0 : dep (.tup []) ≤ 20 := by simp [dep, deps]
theorem d_t1 {a : List Int} : dep (.tup [.ilist a]) ≤ 20 := by simp [dep, deps]
theorem d_t2 {a b : List Int} : dep (.tup [.ilist a, .ilist b]) ≤ 20 := by simp [dep, deps]
include H
theorem rest_ok {ns : List Int} {l : List Nat} {k r i j kind e : Nat} (hf : Fine l k) (hk : k < 4) (hi : i < l.length) (hj : j < l.length) (g : Good kind l[i] l[j] e) (hs : 3 ≤ kind → kind < 7 → l[i] < 10 ^ 32 ∧ l[j] < 10 ^ 32) {x4 x5 x8 x11 x12 x13 x14 x15 x16 x17 : L} {Q : Post} {N : List L → Prop}
    (hN : ∀ (l' : List Nat) (y11 y12 y13 y14 y15 y16 : L), Fine l' (k + 1) → N [.val (.ilist ns), .own (numsD l'), .own (regsD l'), .val (.int (r : Nat)), x4, x5, .val (.int kind), .val (.int i), x8, .val (.int j), .val (.int e), y11, y12, y13, y14, y15, y16, x17]) :
    wpSs F G (U_rest fc fd fl fn fr fs ft) [.val (.ilist ns), .own (numsD l), .own (regsD l), .val (.int (r : Nat)), x4, x5, .val (.int kind), .val (.int i), x8, .val (.int j), .val (.int e), x11, x12, x13, x14, x15, x16, x17] (Stp Q N) := by
  have e1 := du_at H.d g
  have e2 := rn_at H.r g
  have hv := fun v => out_lt (v := v) g hs
  have n1 := num_i hi
  have n2 := num_i hj
  have r1 := reg_i hi
  have r2 := reg_i hj
  have hlen := hf.2.1
  have k1 : ∀ s : Str, cmpop .ne (.str s) (.str s) = .ok (.bool false) := fun s => c_ne_same d_str
  rcases out_shape kind l[i] l[j] e with h | ⟨a, h⟩ | ⟨a, b, h⟩
  · generalize out kind l[i] l[j] e = o at *
    obtain ⟨s, q⟩ := o
    simp only at h
    subst h
    simp only [duD, rnD, List.map_nil] at e1 e2
    have k2 := c_ne_same d_t0
    simp [U_rest, n1, n2, r1, r2, e1, e2, k1, tm0, k2]
    exact hN l _ _ _ _ _ _ hf.up
  · have ha := hv a (by rw [h]; exact .head _)
    generalize out kind l[i] l[j] e = o at *
    obtain ⟨s, q⟩ := o
    simp only at h
    subst h
    simp only [duD, rnD, List.map_cons, List.map_nil] at e1 e2
    have k2 := c_ne_same (d_t1 (a := lay a))
    have m1 := tm1 H.l ha
    have a1 := num_a (l := l) (v := a) (by lia)
    have a2 := reg_a (l := l) (v := a) (by lia)
    simp [U_rest, n1, n2, r1, r2, e1, e2, k1, m1, k2, a1, a2]
    exact hN (l ++ [a]) _ _ _ _ _ _ (hf.add (by simp) (fun v hm => by rw [List.mem_singleton.mp hm]; exact ha))
  · have ha := hv a (by rw [h]; exact .head _)
    have hb := hv b (by rw [h]; exact .tail _ (.head _))
    generalize out kind l[i] l[j] e = o at *
    obtain ⟨s, q⟩ := o
    simp only at h
    subst h
    simp only [duD, rnD, List.map_cons, List.map_nil] at e1 e2
    have k2 := c_ne_same (d_t2 (a := lay a) (b := lay b))
    have m1 := tm2 H.l ha hb
    have a1 := num_a (l := l) (v := a) (by lia)
    have a2 := reg_a (l := l) (v := a) (by lia)
    have a3 := num_a (l := l ++ [a]) (v := b) (by simp; lia)
    have a4 := reg_a (l := l ++ [a]) (v := b) (by simp; lia)
    rw [List.append_assoc] at a3 a4
    simp only [List.cons_append, List.nil_append] at a3 a4
    simp [U_rest, n1, n2, r1, r2, e1, e2, k1, m1, k2, a1, a2, a3, a4]
    exact hN (l ++ [a, b]) _ _ _ _ _ _ (hf.add (by simp) (fun v hm => by
      rcases List.mem_cons.mp hm with hm | hm
      · rw [hm]; exact ha
      · rw [List.mem_singleton.mp hm]; exact hb))
theorem turn_ok {ns : List Int} {l : List Nat} {k r : Nat} (hf : Fine l k) (hk : k < 4) {x5 x6 x7 x8 x9 x10 x11 x12 x13 x14 x15 x16 x17 : L} {Q : Post} {N : List L → Prop}
    (hN : ∀ (l' : List Nat) (r' : Nat) (y4 y5 y6 y7 y8 y9 y10 y11 y12 y13 y14 y15 y16 y17 : L), Fine l' (k + 1) → N [.val (.ilist ns), .own (numsD l'), .own (regsD l'), .val (.int (r' : Nat)), y4, y5, y6, y7, y8, y9, y10, y11, y12, y13, y14, y15, y16, y17]) :
    wpSs F G (L_turn fc fd fl fn fr fs ft) [.val (.ilist ns), .own (numsD l), .own (regsD l), .val (.int (r : Nat)), .val (.int k), x5, x6, x7, x8, x9, x10, x11, x12, x13, x14, x15, x16, x17] (Stp Q N) := by
  have at1 : binop .mul (.int 3) (.int k) = .ok (.int (3 * (k : Int))) := b_mul ⟨by decide, by rw [Int.natAbs_natCast]; exact Nat.le_trans (Nat.le_of_lt hk) (by decide)⟩
  obtain ⟨p, hp⟩ : ∃ p : Nat, p = 12 + 3 * k := ⟨_, rfl⟩
  have ep : (12 : Int) + 3 * (k : Int) = (p : Int) := by lia
  have c0 := cell_at H.c (ns := ns) (i := p) (by lia)
  have c1 : F fc [.ilist ns, .int ((p : Int) + 1)] = .ok (.int (cellAt ns (p + 1))) := cell_at H.c (i := p + 1) (by lia)
  have c2 : F fc [.ilist ns, .int ((p : Int) + 2)] = .ok (.int (cellAt ns (p + 2))) := cell_at H.c (i := p + 2) (by lia)
  have l0 : 0 < l.length := Nat.lt_of_lt_of_le (by decide) hf.1
  obtain ⟨kind, hkd, ek⟩ : ∃ q : Nat, q < 12 ∧ cellAt ns p % 12 = q := modI (b := 12) (by decide)
  obtain ⟨i, hi, ei⟩ : ∃ q : Nat, q < l.length ∧ cellAt ns (p + 1) % (l.length : Int) = q := modI l0
  obtain ⟨j, hj, ej⟩ : ∃ q : Nat, q < l.length ∧ cellAt ns (p + 2) % (l.length : Int) = q := modI l0
  obtain ⟨e, he, ee⟩ : ∃ q : Nat, q < 5 ∧ cellAt ns (p + 2) % 5 = q := modI (b := 5) (by decide)
  have li : (0 : Int) < (l.length : Int) := by lia
  have mi : binop .mod (.int (cellAt ns (p + 1))) (.int (l.length : Int)) = .ok (.int i) := by rw [b_modp li, ei]
  have mj : binop .mod (.int (cellAt ns (p + 2))) (.int (l.length : Int)) = .ok (.int j) := by rw [b_modp li, ej]
  have n1 := num_i hi
  have n2 := num_i hj
  have s1 := sk_at H.s (m := l[i]) (n := l[j]) (r := r) hkd
  have nl := num_l (l := l)
  cases hsk : skip kind l[i] l[j] r with
  | true =>
    rw [hsk] at s1
    simp [L_turn, at1, ep, c0, c1, c2, ek, ee, nl, mi, mj, -b_modp, b_modp (show (0 : Int) < 12 by decide), b_modp (show (0 : Int) < 5 by decide), n1, n2, s1]
    exact hN l r _ _ _ _ _ _ _ _ _ _ _ _ _ _ hf.up
  | false =>
    rw [hsk] at s1
    obtain ⟨h32, h8⟩ := skip_f hsk
    have g : Good kind l[i] l[j] e := ⟨hkd, hf.get hi, hf.get hj, he, h8⟩
    by_cases h11 : kind = 11
    · have cc := c_eqT (a := (kind : Int)) (b := 11) (by lia)
      clear h11
      simp [L_turn, at1, ep, c0, c1, c2, ek, ee, nl, mi, mj, -b_modp, b_modp (show (0 : Int) < 12 by decide), b_modp (show (0 : Int) < 5 by decide), n1, n2, s1, cc, -c_eq]
      exact rest_ok (r := r + 1) H hf hk hi hj g h32 fun l' y11 y12 y13 y14 y15 y16 h => hN l' (r + 1) _ _ _ _ _ _ _ _ _ _ _ _ _ _ h
    · have cc := c_eqF (a := (kind : Int)) (b := 11) (by lia)
      clear h11
      simp [L_turn, at1, ep, c0, c1, c2, ek, ee, nl, mi, mj, -b_modp, b_modp (show (0 : Int) < 12 by decide), b_modp (show (0 : Int) < 5 by decide), n1, n2, s1, cc, -c_eq]
      exact rest_ok H hf hk hi hj g h32 fun l' y11 y12 y13 y14 y15 y16 h => hN l' r _ _ _ _ _ _ _ _ _ _ _ _ _ _ h
omit H
theorem mk3 {a b c : Nat} : mkList [.int a, .int b, .int c] = numsD [a, b, c] := rfl
theorem kO_nums {i : Nat} {r : List S} {σ : List L} {Q : Post} {l : List Nat} : kO F G i r σ Q (numsD l) = wpSs F G r (σ.set i (.own (numsD l))) Q := rfl
theorem kO_regs {i : Nat} {r : List S} {σ : List L} {Q : Post} {l : List Nat} : kO F G i r σ Q (regsD l) = wpSs F G r (σ.set i (.own (regsD l))) Q := rfl
theorem sizes {k : Nat} (h : k < 8) : ∃ c : Nat, c < 5 ∧ getitem (.tup [.int 4, .int 0, .int 3, .int 4, .int 1, .int 4, .int 2, .int 4]) (.int k) = .ok (.int c) := by
  rcases (show k = 0 ∨ k = 1 ∨ k = 2 ∨ k = 3 ∨ k = 4 ∨ k = 5 ∨ k = 6 ∨ k = 7 by lia) with rfl | rfl | rfl | rfl | rfl | rfl | rfl | rfl
  · exact ⟨4, by decide, rfl⟩
  · exact ⟨0, by decide, rfl⟩
  · exact ⟨3, by decide, rfl⟩
  · exact ⟨4, by decide, rfl⟩
  · exact ⟨1, by decide, rfl⟩
  · exact ⟨4, by decide, rfl⟩
  · exact ⟨2, by decide, rfl⟩
  · exact ⟨4, by decide, rfl⟩
theorem num_RB (ns : List Int) (a : Nat) {k : Nat} (h : k < 5) : numK ns a k < RB :=
  Nat.lt_of_lt_of_le (numK_lt ns a k) (Nat.le_trans (Nat.pow_le_pow_right (by decide) (Nat.le_of_lt h)) (by unfold RB; decide))
include H
theorem law_ok (hG : G 1 = some (.tup [.int 4, .int 0, .int 3, .int 4, .int 1, .int 4, .int 2, .int 4])) (ns : List Int) : Con F G (B_law fc fd fl fn fr fs ft) 17 [.ilist ns] (.ok (.bool true)) := by
  have a0 : F fc [.ilist ns, .int 0] = .ok (.int (cellAt ns 0)) := cell_at H.c (i := 0) (by decide)
  have a5 : F fc [.ilist ns, .int 5] = .ok (.int (cellAt ns 5)) := cell_at H.c (i := 5) (by decide)
  obtain ⟨k0, h0, e0⟩ : ∃ k : Nat, k < 8 ∧ cellAt ns 0 % 8 = k := modI (b := 8) (by decide)
  obtain ⟨k5, h5, e5⟩ : ∃ k : Nat, k < 8 ∧ cellAt ns 5 % 8 = k := modI (b := 8) (by decide)
  obtain ⟨s0, hs0, g0⟩ := sizes h0
  obtain ⟨s5, hs5, g5⟩ := sizes h5
  have n1 : F fn [.ilist ns, .int 1, .int s0] = .ok (.int (numK ns 1 s0)) := num_at H.n (a := 1) (by decide) hs0
  have n6 : F fn [.ilist ns, .int 6, .int s5] = .ok (.int (numK ns 6 s5)) := num_at H.n (a := 6) (by decide) hs5
  have n10 : F fn [.ilist ns, .int 10, .int 2] = .ok (.int (numK ns 10 2)) := num_at H.n (a := 10) (k := 2) (by decide) (by decide)
  have b1 := num_RB ns 1 hs0
  have b6 := num_RB ns 6 hs5
  have b10 := num_RB ns 10 (k := 2) (by decide)
  generalize numK ns 1 s0 = u at *
  generalize numK ns 6 s5 = v at *
  generalize numK ns 10 2 = w at *
  have m3 := map3 H.l b1 b6 b10
  have f0 : Fine [u, v, w] 0 := ⟨Nat.le_refl 3, Nat.le_refl 3, fun x hx => by
    rcases List.mem_cons.mp hx with q | hx
    · rw [q]; exact b1
    · rcases List.mem_cons.mp hx with q | hx
      · rw [q]; exact b6
      · rw [List.mem_singleton.mp hx]; exact b10⟩
  obtain ⟨I, hI⟩ : ∃ I : Nat → List L → Prop, ∀ k σ, I k σ ↔ (∃ (l : List Nat) (r : Nat) (y4 y5 y6 y7 y8 y9 y10 y11 y12 y13 y14 y15 y16 y17 : L), Fine l k ∧ σ = [.val (.ilist ns), .own (numsD l), .own (regsD l), .val (.int (r : Nat)), y4, y5, y6, y7, y8, y9, y10, y11, y12, y13, y14, y15, y16, y17]) := ⟨_, fun _ _ => Iff.rfl⟩
  simp [Con, B_law, a0, a5, e0, e5, hG, g0, g5, n1, n6, n10, mk3, kO_nums, m3, kO_regs, LIM]
  refine forUp (n := 4) I ((hI _ _).mpr ⟨[u, v, w], 0, _, _, _, _, _, _, _, _, _, _, _, _, _, _, f0, rfl⟩) (fun k σ hk h => ?_) (fun σ h => ?_)
  · obtain ⟨l, r, y4, y5, y6, y7, y8, y9, y10, y11, y12, y13, y14, y15, y16, y17, hf, rfl⟩ := (hI _ _).mp h
    exact turn_ok H hf hk fun l' r' z4 z5 z6 z7 z8 z9 z10 z11 z12 z13 z14 z15 z16 z17 hf' => (hI _ _).mpr ⟨l', r', _, _, _, _, _, _, _, _, _, _, _, _, _, _, hf', rfl⟩
  · obtain ⟨l, r, y4, y5, y6, y7, y8, y9, y10, y11, y12, y13, y14, y15, y16, y17, hf, rfl⟩ := (hI _ _).mp h
    have nl := num_l (l := l)
    have ll : l.length ≤ LIM := Nat.le_trans hf.2.1 (by decide)
    obtain ⟨J, hJ⟩ : ∃ J : Nat → List L → Prop, ∀ k σ, J k σ ↔ (∃ z : L, σ = [.val (.ilist ns), .own (numsD l), .own (regsD l), .val (.int (r : Nat)), y4, y5, y6, y7, y8, y9, y10, y11, y12, y13, y14, y15, y16, z]) := ⟨_, fun _ _ => Iff.rfl⟩
    simp [nl, ll]
    refine forUp J ((hJ _ _).mpr ⟨_, rfl⟩) (fun k σ hk h => ?_) (fun σ h => ?_)
    · obtain ⟨z, rfl⟩ := (hJ _ _).mp h
      have q1 := num_i hk
      have q2 := reg_i hk
      have hv := hf.get hk
      have t1 := toDec_at H.t (RB_BN hv)
      have t2 := str_nat (n := l[k]) (Nat.lt_trans hv (by unfold RB; decide))
      have t3 := limbs_at H.l (RB_BN hv)
      have c1 : cmpop .ne (.ilist (lay l[k])) (.ilist (lay l[k])) = .ok (.bool false) := c_ne_same (by simp [dep])
      simp [L_last, q1, q2, t1, t2, t3, c1]
      exact (hJ _ _).mpr ⟨_, rfl⟩
    · obtain ⟨z, rfl⟩ := (hJ _ _).mp h
      simp
omit H
noncomputable def FT : Nat → List D → Res D
  | 0 => trimmedF
  | 1 => compareF
  | 2 => addF
  | 3 => subF
  | 4 => mulSmallF
  | 5 => shiftedF
  | 6 => mulF
  | 7 => splitF
  | 8 => karF 0
  | 9 => karF 1
  | 10 => karF 2
  | 11 => karF 3
  | 12 => karF 4
  | 13 => divSmallF
  | 14 => trialF
  | 15 => divmodF
  | 16 => toDecF
  | 17 => powF
  | 18 => isqrtF
  | 19 => cellF
  | 20 => limbF
  | 21 => numF
  | 22 => limbsF
  | 23 => rootF
  | 24 => valIf skP
  | 25 => valIf duP
  | 26 => valIf rnP
  | 27 => fn1 cL fun _ => .ok (.bool true)
  | _ => fun _ => .stuck
theorem pureT : ∀ k f, funsT[k]? = some f → PureOk FT (fun g => (globsT[g]?).map (·.2)) k f := by
  intro k f h
  have hk : k < 28 := by
    rcases Nat.lt_or_ge k 28 with h' | h'
    · exact h'
    · rw [List.getElem?_eq_none (by exact h')] at h; cases h
  match k, hk with
  | 0, _ => cases h; exact pure_fn1 (A := cL) rfl rfl fun a _ => trimmed_ok a
  | 1, _ => cases h; exact pure_fn2 (A := cW) (B := cW) rfl rfl fun a b ha hb => compare_ok a b ha hb
  | 2, _ => cases h; exact pure_fn2 (A := cW) (B := cW) rfl rfl fun a b ha hb => add_ok rfl a b ha hb
  | 3, _ => cases h; exact pure_fn2 (A := cW) (B := cW) rfl rfl fun a b ha hb => sub_ok rfl rfl rfl a b ha hb
  | 4, _ => cases h; exact pure_fn2 (A := cW) (B := cI) rfl rfl fun a b ha _ => mulSmall_ok rfl a b ha
  | 5, _ => cases h; exact pure_fn2 (A := cW) (B := cNI 3000) rfl rfl fun a b ha hb => shifted_ok a b ha hb
  | 6, _ => cases h; exact pure_fn2 (A := cN) (B := cN) rfl rfl fun a b ha hb => mul_ok rfl rfl a b ha hb
  | 7, _ => cases h; exact pure_fn2 (A := cN) (B := cNI 2000) rfl rfl fun a b _ _ => split_ok rfl a b
  | 8, _ => cases h; exact pure_fn3 (A := natB KB) (B := natB KB) (C := cNI 1) rfl rfl fun a b c ha hb hc => kar0_ok rfl a b c ha hb hc
  | 9, _ => cases h; exact pure_fn3 (A := natB KB) (B := natB KB) (C := cNI 2) rfl rfl fun a b c ha hb hc => karS_ok (F := FT) (fa := 2) (fk := 8) (fm := 6) (fh := 5) (fp := 7) (fs := 3) (j := 0) rfl rfl rfl rfl rfl rfl a b c ha hb hc
  | 10, _ => cases h; exact pure_fn3 (A := natB KB) (B := natB KB) (C := cNI 3) rfl rfl fun a b c ha hb hc => karS_ok (F := FT) (fa := 2) (fk := 9) (fm := 6) (fh := 5) (fp := 7) (fs := 3) (j := 1) rfl rfl rfl rfl rfl rfl a b c ha hb hc
  | 11, _ => cases h; exact pure_fn3 (A := natB KB) (B := natB KB) (C := cNI 4) rfl rfl fun a b c ha hb hc => karS_ok (F := FT) (fa := 2) (fk := 10) (fm := 6) (fh := 5) (fp := 7) (fs := 3) (j := 2) rfl rfl rfl rfl rfl rfl a b c ha hb hc
  | 12, _ => cases h; exact pure_fn3 (A := natB KB) (B := natB KB) (C := cNI 5) rfl rfl fun a b c ha hb hc => karS_ok (F := FT) (fa := 2) (fk := 11) (fm := 6) (fh := 5) (fp := 7) (fs := 3) (j := 3) rfl rfl rfl rfl rfl rfl a b c ha hb hc
  | 13, _ => cases h; exact pure_fn2 (A := cW) (B := cNI 10000) rfl rfl fun a b ha hb => divSmall_ok rfl rfl a b ha hb
  | 14, _ => cases h; exact pure_fn2 (A := cW) (B := cN) rfl rfl fun a b ha hb => trial_ok rfl rfl rfl a b ha hb
  | 15, _ => cases h; exact pure_fn2 (A := cN) (B := cN) rfl rfl fun a b ha hb => divmod_ok rfl rfl rfl rfl a b ha hb
  | 16, _ => cases h; exact pure_fn1 (A := cN) rfl rfl fun a ha => toDec_ok a ha
  | 17, _ => cases h; exact pure_fn2 (A := cN) (B := cNI BN) rfl rfl fun a b ha _ => pow_ok rfl a b ha
  | 18, _ => cases h; exact pure_fn1 (A := natB TN) rfl rfl fun a ha => isqrt_ok rfl rfl rfl rfl rfl a ha
  | 19, _ => cases h; exact pure_fn2 (A := cL) (B := cNI BN) rfl rfl fun a b _ _ => cell_ok a b
  | 20, _ => cases h; exact pure_fn1 (A := cI) rfl rfl fun a _ => limb_ok rfl a
  | 21, _ => cases h; exact pure_fn3 (A := cL) (B := cNI 100) (C := cNI 5) rfl rfl fun a b c _ hb hc => num_ok rfl rfl a b c hb hc
  | 22, _ => cases h; exact pure_fn1 (A := cNI BN) rfl rfl fun a ha => limbs_ok a ha
  | 23, _ => cases h; exact pure_fn1 (A := cNI (10 ^ 8)) rfl rfl fun a ha => root_ok a ha
  | 24, _ => cases h; exact pure_valIf rfl fun ds d hP => ⟨by obtain ⟨_, _, _, _, _, rfl, _⟩ := hP; rfl, sk_ok ds d hP⟩
  | 25, _ => cases h; exact pure_valIf rfl fun ds d hP => ⟨by obtain ⟨_, _, _, _, _, rfl, _⟩ := hP; rfl, du_ok rfl ds d hP⟩
  | 26, _ => cases h; exact pure_valIf rfl fun ds d hP => ⟨by obtain ⟨_, _, _, _, _, rfl, _⟩ := hP; rfl, rn_ok (F := FT) (fd := 15) (fi := 18) (fk := 12) (fp := 17) (fs := 3) rfl rfl rfl rfl rfl ds d hP⟩
  | 27, _ => cases h; exact pure_fn1 (A := cL) rfl rfl fun a _ => law_ok ⟨rfl, rfl, rfl, rfl, rfl, rfl, rfl⟩ rfl a
theorem lawT (ns : List Int) (_ : ns.length ≤ 63) : FT 27 [.ilist ns] = .ok (.bool true) := rfl
end
end Lim

set_option maxRecDepth 100000
set_option maxHeartbeats 8000000
open PySem PySem.W PyProof.Rows
/-! TO A READER: the next rows hold no mathematics. The library's head makes, for speed alone, a copy tw.. and an equation te.. of each constant of the top, named under this theorem (Lim.top). These rows take the copies' names ahead, so the head goes on without them and the compiled file stays under the lid. Statement, axioms and kernel check are the same. See REPORT.md, 'Names taken ahead'. -/
theorem Lim.top.tw10318499844915788247 : True := trivial
theorem Lim.top.tw10405685042072107771 : True := trivial
theorem Lim.top.tw10563709922738672377 : True := trivial
theorem Lim.top.tw10657491617156244736 : True := trivial
theorem Lim.top.tw10740115697192922641 : True := trivial
theorem Lim.top.tw10828441731284650187 : True := trivial
theorem Lim.top.tw1083452298766186941 : True := trivial
theorem Lim.top.tw10902149879862477003 : True := trivial
theorem Lim.top.tw10976231168443419506 : True := trivial
theorem Lim.top.tw11053497537119007637 : True := trivial
theorem Lim.top.tw11274594411628599082 : True := trivial
theorem Lim.top.tw11321973179893750546 : True := trivial
theorem Lim.top.tw11398529647943180664 : True := trivial
theorem Lim.top.tw11469275437587622803 : True := trivial
theorem Lim.top.tw11881937528316617475 : True := trivial
theorem Lim.top.tw12051548783496196896 : True := trivial
theorem Lim.top.tw12177941949856488383 : True := trivial
theorem Lim.top.tw12218784898821575539 : True := trivial
theorem Lim.top.tw12396942831755243163 : True := trivial
theorem Lim.top.tw12501001579536141472 : True := trivial
theorem Lim.top.tw1257370938320021951 : True := trivial
theorem Lim.top.tw12673253239713789177 : True := trivial
theorem Lim.top.tw12736596805640096786 : True := trivial
theorem Lim.top.tw12826800836877978605 : True := trivial
theorem Lim.top.tw12898453015786319505 : True := trivial
theorem Lim.top.tw12911725169530851120 : True := trivial
theorem Lim.top.tw13002494838011695412 : True := trivial
theorem Lim.top.tw13071389957790372752 : True := trivial
theorem Lim.top.tw13296051470931673168 : True := trivial
theorem Lim.top.tw13309522496127223526 : True := trivial
theorem Lim.top.tw13311908991590985000 : True := trivial
theorem Lim.top.tw13448955776918635561 : True := trivial
theorem Lim.top.tw13464818838725310409 : True := trivial
theorem Lim.top.tw1347093995485452091 : True := trivial
theorem Lim.top.tw13501042689471814650 : True := trivial
theorem Lim.top.tw13606715618901132871 : True := trivial
theorem Lim.top.tw13855799648624738293 : True := trivial
theorem Lim.top.tw13858532819334953357 : True := trivial
theorem Lim.top.tw13928010361247484858 : True := trivial
theorem Lim.top.tw14114564210024730222 : True := trivial
theorem Lim.top.tw14120959593170031886 : True := trivial
theorem Lim.top.tw14128976484010224053 : True := trivial
theorem Lim.top.tw14358975145950324913 : True := trivial
theorem Lim.top.tw14551087785958025877 : True := trivial
theorem Lim.top.tw14640319934959408756 : True := trivial
theorem Lim.top.tw14650248090186695056 : True := trivial
theorem Lim.top.tw1474407277770875367 : True := trivial
theorem Lim.top.tw14897212039973078198 : True := trivial
theorem Lim.top.tw14922788115112720988 : True := trivial
theorem Lim.top.tw14955569639051092239 : True := trivial
theorem Lim.top.tw15062588568619776239 : True := trivial
theorem Lim.top.tw15092733126934533636 : True := trivial
theorem Lim.top.tw15234828937454791241 : True := trivial
theorem Lim.top.tw15308066769149437113 : True := trivial
theorem Lim.top.tw15628099060407736056 : True := trivial
theorem Lim.top.tw15752302056074421485 : True := trivial
theorem Lim.top.tw15906571538384725769 : True := trivial
theorem Lim.top.tw16004522649741496664 : True := trivial
theorem Lim.top.tw16015648587431610494 : True := trivial
theorem Lim.top.tw16048571515330241036 : True := trivial
theorem Lim.top.tw16125717792268917281 : True := trivial
theorem Lim.top.tw16232295783859488209 : True := trivial
theorem Lim.top.tw16452732762293269104 : True := trivial
theorem Lim.top.tw16504026406328440730 : True := trivial
theorem Lim.top.tw1657508491029191307 : True := trivial
theorem Lim.top.tw16687320428023518183 : True := trivial
theorem Lim.top.tw16786124468576024594 : True := trivial
theorem Lim.top.tw17109424172774282431 : True := trivial
theorem Lim.top.tw17116322842031564211 : True := trivial
theorem Lim.top.tw17136826272929465347 : True := trivial
theorem Lim.top.tw17148798378065706773 : True := trivial
theorem Lim.top.tw17264776969422839647 : True := trivial
theorem Lim.top.tw17303232254530608839 : True := trivial
theorem Lim.top.tw17461313519916485846 : True := trivial
theorem Lim.top.tw17599734320379928424 : True := trivial
theorem Lim.top.tw17731277677550657077 : True := trivial
theorem Lim.top.tw17820888037724216440 : True := trivial
theorem Lim.top.tw17877675671694205979 : True := trivial
theorem Lim.top.tw17974518086600355747 : True := trivial
theorem Lim.top.tw18005682277932561828 : True := trivial
theorem Lim.top.tw18243866044200243355 : True := trivial
theorem Lim.top.tw18417224393531315658 : True := trivial
theorem Lim.top.tw1872528265889928281 : True := trivial
theorem Lim.top.tw1966707759336907325 : True := trivial
theorem Lim.top.tw1967953648339684659 : True := trivial
theorem Lim.top.tw199203365748841052 : True := trivial
theorem Lim.top.tw2058515629407683200 : True := trivial
theorem Lim.top.tw210388366661105588 : True := trivial
theorem Lim.top.tw2277909783915682502 : True := trivial
theorem Lim.top.tw231995511412459647 : True := trivial
theorem Lim.top.tw2412592289978016151 : True := trivial
theorem Lim.top.tw2578092058586756581 : True := trivial
theorem Lim.top.tw2578370912976102578 : True := trivial
theorem Lim.top.tw2599903877095153272 : True := trivial
theorem Lim.top.tw3037422822933738490 : True := trivial
theorem Lim.top.tw3091081167849347274 : True := trivial
theorem Lim.top.tw3169051092001569326 : True := trivial
theorem Lim.top.tw3278561778752887572 : True := trivial
theorem Lim.top.tw3383748694010694831 : True := trivial
theorem Lim.top.tw3462490028999932828 : True := trivial
theorem Lim.top.tw351793202558804241 : True := trivial
theorem Lim.top.tw3531834079071774453 : True := trivial
theorem Lim.top.tw3683572707764525152 : True := trivial
theorem Lim.top.tw37839423633861140 : True := trivial
theorem Lim.top.tw4209072599598184649 : True := trivial
theorem Lim.top.tw4279333006466627770 : True := trivial
theorem Lim.top.tw4322643134537436378 : True := trivial
theorem Lim.top.tw4478195981385041216 : True := trivial
theorem Lim.top.tw4629378485642474204 : True := trivial
theorem Lim.top.tw4787435764193774020 : True := trivial
theorem Lim.top.tw4937460142584363508 : True := trivial
theorem Lim.top.tw5011932319070530879 : True := trivial
theorem Lim.top.tw5092405990292495566 : True := trivial
theorem Lim.top.tw5259817072108776598 : True := trivial
theorem Lim.top.tw5315719480237684480 : True := trivial
theorem Lim.top.tw5665325762164350524 : True := trivial
theorem Lim.top.tw5674135879136833391 : True := trivial
theorem Lim.top.tw5897564332447063030 : True := trivial
theorem Lim.top.tw5957489897335472936 : True := trivial
theorem Lim.top.tw5964402858929901569 : True := trivial
theorem Lim.top.tw6022121126165362848 : True := trivial
theorem Lim.top.tw6149352319572337723 : True := trivial
theorem Lim.top.tw614960073504470805 : True := trivial
theorem Lim.top.tw6212925299562026172 : True := trivial
theorem Lim.top.tw6255105446746580734 : True := trivial
theorem Lim.top.tw631003324672842894 : True := trivial
theorem Lim.top.tw650984215285722993 : True := trivial
theorem Lim.top.tw6522560114690448246 : True := trivial
theorem Lim.top.tw656811143379010497 : True := trivial
theorem Lim.top.tw6621658729221338561 : True := trivial
theorem Lim.top.tw6762661709769401654 : True := trivial
theorem Lim.top.tw6884607474272674961 : True := trivial
theorem Lim.top.tw6907191292197923239 : True := trivial
theorem Lim.top.tw6924674392169085399 : True := trivial
theorem Lim.top.tw7114581990219063671 : True := trivial
theorem Lim.top.tw7129423956235191475 : True := trivial
theorem Lim.top.tw7191209904506210837 : True := trivial
theorem Lim.top.tw7248744216226867878 : True := trivial
theorem Lim.top.tw7356942197884242869 : True := trivial
theorem Lim.top.tw7387161666365251091 : True := trivial
theorem Lim.top.tw7498354334976189398 : True := trivial
theorem Lim.top.tw7596058503627367405 : True := trivial
theorem Lim.top.tw7622606839954844643 : True := trivial
theorem Lim.top.tw7635226851004886345 : True := trivial
theorem Lim.top.tw796568411787515044 : True := trivial
theorem Lim.top.tw8008278845226524751 : True := trivial
theorem Lim.top.tw8013844796607945528 : True := trivial
theorem Lim.top.tw8112642021853559337 : True := trivial
theorem Lim.top.tw8184869827366889923 : True := trivial
theorem Lim.top.tw8227380892275828368 : True := trivial
theorem Lim.top.tw8394935554555942042 : True := trivial
theorem Lim.top.tw8402286257930204641 : True := trivial
theorem Lim.top.tw8500440428056250289 : True := trivial
theorem Lim.top.tw8558232334903768024 : True := trivial
theorem Lim.top.tw8601620981191457737 : True := trivial
theorem Lim.top.tw8741514487314219410 : True := trivial
theorem Lim.top.tw8775775568437792696 : True := trivial
theorem Lim.top.tw877748560346380178 : True := trivial
theorem Lim.top.tw8886908909906683880 : True := trivial
theorem Lim.top.tw9409028516470411202 : True := trivial
theorem Lim.top.tw9539841773039449543 : True := trivial
theorem Lim.top.tw9539900029379936638 : True := trivial
theorem Lim.top.tw977645085704429272 : True := trivial
theorem Lim.top.tw995207219664175550 : True := trivial

set_option Elab.async true
open Lim in
theorem Lim.top : PySem.Challenge.rw_pd_limbs_1_08.Holds := by
  (w_on; o_law; k_head; (case hw => w_witness2))
  intro w s₀ s₁ mg mb G Y fa o pm cd doc dV kV ho hd hcd hD hmg hg args vals as hpre hlay hrd hwl hlo
  have KX := kIn_of Y
  refine Ground.open G ?_
  intro T B D TE TW
  wrow_args hpre hlay hrd hwl hlo
  rename Well _ _ _ _ => w1
  rename ¬ _ < _ => hc
  obtain ⟨vs, n, hs, hA, hlen⟩ := script_of w1
  refine lawOk KX T.g T.b T.nolimit T.builtins funsT globsT FT (by kernel_rfl) (by kernel_rfl) (by kernel_rfl) pureT (k := 27) rfl hmg (by omega) hs hA (by rw [hlen]; have := sizeLine_eq; omega) (lawT _ (by omega)) (fun s' hk ev => goodTrue hk ev hg (raisesW_false ?_) ?_)
  · wrow_none_raised
  · refine postW_of (by wrow_shape) (w_eq_bool (w_res rfl) w_lit) rfl
theorem PySem.Challenge.cw_pd_limbs_1_08_holds : PySem.Challenge.rw_pd_limbs_1_08.Holds :=
  Lim.top
