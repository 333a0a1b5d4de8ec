import PyProof.Rows.All
import Wide.All
import OpenK.AllK
import Wide.FinOn
import HandS.ForMost
import HandS.IsInst
import HandS.NoneIn
import HandS.Style
import HandS.Conv
import KE.DataEq
import PySem.Challenge.RW_turnedtrees_k14_whole_rows
import HandS.Head0
import HandS.HeadHook1
import HandS.HeadHook2
import HandS.Defaults
import HandS.Wide
set_option Elab.async false
set_option linter.all false
set_option Elab.async false
set_option linter.all false
set_option maxRecDepth 100000
set_option maxHeartbeats 4000000
/-! The deep language of pure code: its codes, their values, the checker. -/
namespace TT
open PySem PySem.Spec PyProof.Rows L2
abbrev D := PyData
inductive F where
  | is_number
  | is_between
  | is_shape
  | need_shape
  | keys_of
  | size_of
  | height_of
  | way_to
  | left_up
  | right_up
  | turned
  | with_leaf
  | least
  | greatest
  | without
  | once_up
  | to_top
  | way_down
  | splayed
  | without_splayed
  | weight_of
  | set_right
  | is_greater
  | is_inner
  | put_right
  | take_right
  | is_even
  | built
  | rebuilt
  | put_rebuilt
  | take_rebuilt
  | rank_of
  | ranked
  | bare
  | skew
  | split
  | put_in
  | with_right
  | set_back
  | take_out
  | is_rule
  | need_rule
  | by_order
  | with_key
  | without_key
  | moved
  | behind
  | cost_of
  | is_deed
  | is_possible
  | need_deed
  | cost
  | keys_along
  | is_row
  | need_row
  | run
  | need_run
  | shapes_along
  | costs_along
  | _law_keys
  | _law_tall
  | _law_path
  | _law_plant
  | _law_order
  | _law_turn
  | _law_leaf
  | _law_part
  | _law_put
  | _law_out
  | _law_heavy
  | _law_inner
  | _law_fixed
  | _law_set
  | _law_even
  | _law_is_even
  | _law_again
  | _law_splay
  | _law_moved
  | _law_splay_out
  | _law_in
  | _law_after
  | _law_price
  deriving DecidableEq

inductive G where
  | MOST | DEEDS | FAMILY
  deriving DecidableEq
inductive Ty where
  | int | bool | str | tuple | list
  deriving DecidableEq
inductive B1 where
  | len | all | sorted | isi (t : Ty)
  deriving DecidableEq
inductive B2 where
  | add | sub | mul | fdiv | eq | ne | lt | le | gt | ge | inn | nin | ix | max | min
  deriving DecidableEq
inductive C where
  | var (i : Nat)
  | cst (d : D)
  | glb (g : G)
  | nil
  | cons (a t : C)
  | tup (c : C)
  | lst (c : C)
  | call (f : F) (c : C)
  | b1 (b : B1) (a : C)
  | b2 (b : B2) (a c : C)
  | chain (a b c : C)
  | neg (a : C)
  | isN (a : C)
  | notN (a : C)
  | and (a b : C)
  | or (a b : C)
  | not (a : C)
  | ite (c a b : C)
  | slc (a lo hi : C)
  | rev (a : C)
  | rng (a b : C)
  | comp (l : Bool) (i : Nat) (src cond elt : C)
  | lvl (b : Bool) (a k : C)
inductive S where
  | nil
  | set (i : Nat) (e : C) (k : S)
  | unp (l : Bool) (is : List Nat) (e : C) (k : S)
  | par (i j : Nat) (e : C) (k : S)
  | ret (e : C) (k : S)
  | ifs (c : C) (a b k : S)
  | whl (c : C) (b k : S)
  | forl (i : Nat) (e : C) (b k : S)
  | drop (e : C) (k : S)
  | nev (k : S)

/-! ### values -/
def isNil : C → Bool
  | .nil => true
  | _ => false

def gval : G → D
  | .MOST => .int 6
  | .DEEDS => .int 40
  | .FAMILY => .tuple [.str "heights", .str "levels", .str "once", .str "plain", .str "rebuilt", .str "splayed", .str "top", .str "weights"]
def gname : G → Str
  | .MOST => "MOST"
  | .DEEDS => "DEEDS"
  | .FAMILY => "FAMILY"
def tyname : Ty → String
  | .int => "int"
  | .bool => "bool"
  | .str => "str"
  | .tuple => "tuple"
  | .list => "list"
def tyOf : D → String
  | .none => "NoneType"
  | .bool _ => "bool"
  | .int _ => "int"
  | .str _ => "str"
  | .list _ => "list"
  | .tuple _ => "tuple"
  | .dict _ => "dict"
def isTy : Ty → D → Bool
  | .int, .int _ => true
  | .int, .bool _ => true
  | .bool, .bool _ => true
  | .str, .str _ => true
  | .tuple, .tuple _ => true
  | .list, .list _ => true
  | _, _ => false
def flatD : D → Bool
  | .none => true
  | .bool _ => true
  | .int _ => true
  | .str _ => true
  | _ => false
abbrev Rho := List (Option D)
def getE : Rho → Nat → Option D
  | [], _ => none
  | a :: _, 0 => a
  | _ :: r, i + 1 => getE r i
def setE : Rho → Nat → D → Rho
  | [], _, _ => []
  | _ :: r, 0, d => some d :: r
  | a :: r, i + 1, d => a :: setE r i d
/-- what stands in a list or a tuple -/
def seqOf : D → Option (List D)
  | .list ds => some ds
  | .tuple ds => some ds
  | _ => none
def inD (x : D) (ds : List D) : Bool := ds.any fun y => PyData.eqv y x
def allB : List D → Option Bool
  | [] => some true
  | .bool b :: r => (allB r).bind fun c => some (b && c)
  | _ :: _ => none
def insI (x : Int) : List Int → List Int
  | [] => [x]
  | y :: r => if x ≤ y then x :: y :: r else y :: insI x r
def isort : List Int → List Int
  | [] => []
  | x :: r => insI x (isort r)
def intsD : List D → Option (List Int)
  | [] => some []
  | .int i :: r => (intsD r).bind fun ns => some (i :: ns)
  | _ :: _ => none
def op1 : B1 → D → Option D
  | .sorted, x => (seqOf x).bind fun ds => (intsD ds).bind fun ns => if ns.length < 64 then some (.list ((isort ns).map PyData.int)) else none
  | .len, .list ds => some (.int ds.length)
  | .len, .tuple ds => some (.int ds.length)
  | .all, .list ds => (allB ds).bind fun b => some (.bool b)
  | .isi t, d => some (.bool (isTy t d))
  | _, _ => none
def eqOk (x y : D) : Bool := decide (x.depth ≤ 64) || decide (y.depth ≤ 64)
def op2 : B2 → D → D → Option D
  | .add, .int i, .int j => some (.int (i + j))
  | .add, .int i, .bool b => some (.int (i + if b then 1 else 0))
  | .add, .list xs, .list ys => if xs.length + ys.length ≤ 1000 then some (.list (xs ++ ys)) else none
  | .sub, .int i, .int j => some (.int (i - j))
  | .mul, .int i, .int j => if i.natAbs ≤ 1000 then some (.int (i * j)) else none
  | .fdiv, .int i, .int j => if 0 < j ∧ j < 1000 then some (.int (i / j)) else none
  | .eq, x, y => if eqOk x y then some (.bool (PyData.eqv x y)) else none
  | .ne, x, y => if eqOk x y then some (.bool (!PyData.eqv x y)) else none
  | .lt, .int i, .int j => some (.bool (decide (i < j)))
  | .le, .int i, .int j => some (.bool (decide (i ≤ j)))
  | .gt, .int i, .int j => some (.bool (decide (j < i)))
  | .ge, .int i, .int j => some (.bool (decide (j ≤ i)))
  | .inn, x, y => (seqOf y).bind fun ds => if flatD x && ds.all flatD then some (.bool (inD x ds)) else none
  | .nin, x, y => (seqOf y).bind fun ds => if flatD x && ds.all flatD then some (.bool (!inD x ds)) else none
  | .ix, x, .int i => (seqOf x).bind fun ds => atI ds i
  | .max, .int i, .int j => some (.int (if j > i then j else i))
  | .min, .int i, .int j => some (.int (if j < i then j else i))
  | _, _, _ => none
def cutD (xs : List D) (lo hi : Option Int) : List D := (xs.drop (HT.sIx xs.length 0 lo)).take (HT.sIx xs.length xs.length hi - HT.sIx xs.length 0 lo)
def asB : D → Option Bool
  | .bool b => some b
  | _ => none
def asI : D → Option Int
  | .int i => some i
  | _ => none
def asL : D → Option (List D)
  | .list ds => some ds
  | _ => none
def asT : D → Option (List D)
  | .tuple ds => some ds
  | _ => none
def compGo (fc : D → Option Bool) (fe : D → Option D) : List D → Option (List D)
  | [] => some []
  | x :: xs => (fc x).bind fun b => if b then (fe x).bind fun y => if flatD y then (compGo fc fe xs).bind fun ys => some (y :: ys) else none else compGo fc fe xs
/-- a def's callees, and the law's two ways through the levels -/
structure Sg where
  cl : F → List D → Option D
  lv : Bool → D → D → Option D
def ev (M : Sg) : C → Rho → Option D
  | .var i, ρ => getE ρ i
  | .cst d, _ => some d
  | .glb g, _ => some (gval g)
  | .nil, _ => some (.tuple [])
  | .cons a t, ρ => (ev M a ρ).bind fun x => (ev M t ρ).bind fun y => (asT y).bind fun ys => some (.tuple (x :: ys))
  | .tup c, ρ => (ev M c ρ).bind fun y => (asT y).bind fun ys => if ys.length ≤ 1000 then some (.tuple ys) else none
  | .lst c, ρ => (ev M c ρ).bind fun y => (asT y).bind fun ys => if ys.length ≤ 1000 then some (.list ys) else none
  | .call f c, ρ => (ev M c ρ).bind fun y => (asT y).bind fun ys => M.cl f ys
  | .b1 b a, ρ => (ev M a ρ).bind fun x => op1 b x
  | .b2 b a c, ρ => (ev M a ρ).bind fun x => (ev M c ρ).bind fun y => op2 b x y
  | .chain a b c, ρ => (ev M a ρ).bind fun x => (asI x).bind fun i => (ev M b ρ).bind fun y => (asI y).bind fun j => if i ≤ j then (ev M c ρ).bind fun z => (asI z).bind fun k => some (.bool (decide (j ≤ k))) else some (.bool false)
  | .neg a, ρ => (ev M a ρ).bind fun x => (asI x).bind fun i => some (.int (-i))
  | .isN a, ρ => (ev M a ρ).bind fun x => some (.bool (PyData.eqv x .none))
  | .notN a, ρ => (ev M a ρ).bind fun x => some (.bool (!PyData.eqv x .none))
  | .and a b, ρ => (ev M a ρ).bind fun x => (asB x).bind fun k => if k then ev M b ρ else some (.bool false)
  | .or a b, ρ => (ev M a ρ).bind fun x => (asB x).bind fun k => if k then some (.bool true) else ev M b ρ
  | .not a, ρ => (ev M a ρ).bind fun x => (asB x).bind fun k => some (.bool (!k))
  | .ite c a b, ρ => (ev M c ρ).bind fun x => (asB x).bind fun k => if k then ev M a ρ else ev M b ρ
  | .slc a lo hi, ρ => (ev M a ρ).bind fun x => (asL x).bind fun xs =>
      (if isNil lo then some none else (ev M lo ρ).bind fun l => (asI l).bind fun i => some (some i)).bind fun l =>
      (if isNil hi then some none else (ev M hi ρ).bind fun h => (asI h).bind fun i => some (some i)).bind fun h => some (.list (cutD xs l h))
  | .rng a b, ρ => (ev M a ρ).bind fun x => (asI x).bind fun i => (ev M b ρ).bind fun y => (asI y).bind fun j => if 0 ≤ i ∧ i ≤ 1000 ∧ 0 ≤ j ∧ j ≤ 1000 then some (.list ((List.range (j - i).toNat).map fun n : Nat => PyData.int (i + n))) else none
  | .rev a, ρ => (ev M a ρ).bind fun x => (asL x).bind fun xs => some (.list xs.reverse)
  | .comp l i src cond elt, ρ => (ev M src ρ).bind fun x => (if l then asL x else asT x).bind fun ds => if ds.length ≤ 1000 then
      (compGo (fun d => if isNil cond then some true else (ev M cond (setE ρ i d)).bind asB) (fun d => ev M elt (setE ρ i d)) ds).bind fun ys => some (.list ys) else none
  | .lvl b a k, ρ => (ev M a ρ).bind fun x => (ev M k ρ).bind fun y => M.lv b x y
inductive R where
  | nx (ρ : Rho)
  | rt (d : D)
def setL : Rho → List Nat → List D → Option Rho
  | ρ, [], [] => some ρ
  | ρ, i :: is, d :: ds => setL (setE ρ i d) is ds
  | _, _, _ => none
def whileGo (fc : Rho → Option Bool) (fb : Rho → Option R) : Nat → Rho → Option R
  | 0, _ => none
  | n + 1, ρ => (fc ρ).bind fun b => if b then (fb ρ).bind fun r => match r with | .nx ρ' => whileGo fc fb n ρ' | .rt d => some (.rt d) else some (.nx ρ)
def forGo (i : Nat) (fb : Rho → Option R) : List D → Rho → Option R
  | [], ρ => some (.nx ρ)
  | d :: ds, ρ => (fb (setE ρ i d)).bind fun r => match r with | .nx ρ' => forGo i fb ds ρ' | .rt d => some (.rt d)
def evS (M : Sg) : S → Rho → Option R
  | .nil, ρ => some (.nx ρ)
  | .set i e k, ρ => (ev M e ρ).bind fun d => evS M k (setE ρ i d)
  | .unp l is e k, ρ => (ev M e ρ).bind fun d => (if l then asL d else asT d).bind fun ds => (setL ρ is ds).bind fun ρ' => evS M k ρ'
  | .par i j e k, ρ => (ev M e ρ).bind fun d => (asT d).bind fun ds => (setL ρ [i, j] ds).bind fun ρ' => evS M k ρ'
  | .ret e _, ρ => (ev M e ρ).bind fun d => some (.rt d)
  | .ifs c a b k, ρ => (ev M c ρ).bind fun x => (asB x).bind fun z => (if z then evS M a ρ else evS M b ρ).bind fun r => match r with | .nx ρ' => evS M k ρ' | .rt d => some (.rt d)
  | .whl c b k, ρ => (whileGo (fun ρ => (ev M c ρ).bind asB) (fun ρ => evS M b ρ) 64 ρ).bind fun r => match r with | .nx ρ' => evS M k ρ' | .rt d => some (.rt d)
  | .forl i e b k, ρ => (ev M e ρ).bind fun d => (asL d).bind fun ds => (forGo i (fun ρ => evS M b ρ) ds ρ).bind fun r => match r with | .nx ρ' => evS M k ρ' | .rt d => some (.rt d)
  | .drop e k, ρ => (ev M e ρ).bind fun _ => evS M k ρ
  | .nev _, _ => none

/-! ### the codes -/
def c_is_number : S := .ret (.and (.b1 (.isi .int) (.var 0)) (.and (.not (.b1 (.isi .bool) (.var 0))) (.chain (.var 1) (.var 0) (.var 2)))) (.nil)
def c_is_between : S := .ifs (.and (.b2 .eq (.var 0) (.tup .nil)) (.b1 (.isi .tuple) (.var 0))) (.ret (.cst (.bool true)) (.nil)) (.nil) (.ifs (.or (.not (.b1 (.isi .tuple) (.var 0))) (.or (.b2 .ne (.b1 .len (.var 0)) (.cst (.int 3))) (.not (.call .is_number (.cons (.b2 .ix (.var 0) (.cst (.int 1))) (.cons (.var 1) (.cons (.var 2) .nil))))))) (.ret (.cst (.bool false)) (.nil)) (.nil) (.ret (.and (.call .is_between (.cons (.b2 .ix (.var 0) (.cst (.int 0))) (.cons (.var 1) (.cons (.b2 .sub (.b2 .ix (.var 0) (.cst (.int 1))) (.cst (.int 1))) .nil)))) (.call .is_between (.cons (.b2 .ix (.var 0) (.cst (.int 2))) (.cons (.b2 .add (.b2 .ix (.var 0) (.cst (.int 1))) (.cst (.int 1))) (.cons (.var 2) .nil))))) (.nil)))
def c_is_shape : S := .ret (.call .is_between (.cons (.var 0) (.cons (.cst (.int 1)) (.cons (.glb .MOST) .nil)))) (.nil)
def c_need_shape : S := .ifs (.not (.call .is_shape (.cons (.var 0) .nil))) (.nev (.nil)) (.nil) (.nil)
def c_keys_of : S := .ret (.ite (.b2 .ne (.var 0) (.tup .nil)) (.b2 .add (.b2 .add (.call .keys_of (.cons (.b2 .ix (.var 0) (.cst (.int 0))) .nil)) (.lst (.cons (.b2 .ix (.var 0) (.cst (.int 1))) .nil))) (.call .keys_of (.cons (.b2 .ix (.var 0) (.cst (.int 2))) .nil))) (.lst .nil)) (.nil)
def c_size_of : S := .ret (.ite (.b2 .ne (.var 0) (.tup .nil)) (.b2 .add (.b2 .add (.call .size_of (.cons (.b2 .ix (.var 0) (.cst (.int 0))) .nil)) (.cst (.int 1))) (.call .size_of (.cons (.b2 .ix (.var 0) (.cst (.int 2))) .nil))) (.cst (.int 0))) (.nil)
def c_height_of : S := .ret (.ite (.b2 .ne (.var 0) (.tup .nil)) (.b2 .add (.cst (.int 1)) (.b2 .max (.call .height_of (.cons (.b2 .ix (.var 0) (.cst (.int 0))) .nil)) (.call .height_of (.cons (.b2 .ix (.var 0) (.cst (.int 2))) .nil)))) (.cst (.int 0))) (.nil)
def c_way_to : S := .ifs (.or (.b2 .eq (.var 0) (.tup .nil)) (.b2 .eq (.b2 .ix (.var 0) (.cst (.int 1))) (.var 1))) (.ret (.cst (.int 0)) (.nil)) (.nil) (.ret (.b2 .add (.cst (.int 1)) (.call .way_to (.cons (.ite (.b2 .lt (.var 1) (.b2 .ix (.var 0) (.cst (.int 1)))) (.b2 .ix (.var 0) (.cst (.int 0))) (.b2 .ix (.var 0) (.cst (.int 2)))) (.cons (.var 1) .nil)))) (.nil))
def c_left_up : S := .unp false [1, 2, 3] (.var 0) (.ret (.tup (.cons (.b2 .ix (.var 1) (.cst (.int 0))) (.cons (.b2 .ix (.var 1) (.cst (.int 1))) (.cons (.tup (.cons (.b2 .ix (.var 1) (.cst (.int 2))) (.cons (.var 2) (.cons (.var 3) .nil)))) .nil)))) (.nil))
def c_right_up : S := .unp false [1, 2, 3] (.var 0) (.ret (.tup (.cons (.tup (.cons (.var 1) (.cons (.var 2) (.cons (.b2 .ix (.var 3) (.cst (.int 0))) .nil)))) (.cons (.b2 .ix (.var 3) (.cst (.int 1))) (.cons (.b2 .ix (.var 3) (.cst (.int 2))) .nil)))) (.nil))
def c_turned : S := .unp false [2, 3, 4] (.var 0) (.ifs (.b2 .lt (.var 1) (.var 3)) (.ret (.ite (.b2 .eq (.b2 .ix (.var 2) (.cst (.int 1))) (.var 1)) (.call .left_up (.cons (.var 0) .nil)) (.tup (.cons (.call .turned (.cons (.var 2) (.cons (.var 1) .nil))) (.cons (.var 3) (.cons (.var 4) .nil))))) (.nil)) (.nil) (.ret (.ite (.b2 .eq (.b2 .ix (.var 4) (.cst (.int 1))) (.var 1)) (.call .right_up (.cons (.var 0) .nil)) (.tup (.cons (.var 2) (.cons (.var 3) (.cons (.call .turned (.cons (.var 4) (.cons (.var 1) .nil))) .nil))))) (.nil)))
def c_with_leaf : S := .ifs (.b2 .eq (.var 0) (.tup .nil)) (.ret (.tup (.cons (.tup .nil) (.cons (.var 1) (.cons (.tup .nil) .nil)))) (.nil)) (.nil) (.unp false [2, 3, 4] (.var 0) (.ret (.ite (.b2 .lt (.var 1) (.var 3)) (.tup (.cons (.call .with_leaf (.cons (.var 2) (.cons (.var 1) .nil))) (.cons (.var 3) (.cons (.var 4) .nil)))) (.tup (.cons (.var 2) (.cons (.var 3) (.cons (.call .with_leaf (.cons (.var 4) (.cons (.var 1) .nil))) .nil))))) (.nil)))
def c_least : S := .ret (.ite (.b2 .eq (.b2 .ix (.var 0) (.cst (.int 0))) (.tup .nil)) (.b2 .ix (.var 0) (.cst (.int 1))) (.call .least (.cons (.b2 .ix (.var 0) (.cst (.int 0))) .nil))) (.nil)
def c_greatest : S := .ret (.ite (.b2 .eq (.b2 .ix (.var 0) (.cst (.int 2))) (.tup .nil)) (.b2 .ix (.var 0) (.cst (.int 1))) (.call .greatest (.cons (.b2 .ix (.var 0) (.cst (.int 2))) .nil))) (.nil)
def c_without : S := .unp false [3, 4, 5] (.var 0) (.ifs (.b2 .lt (.var 1) (.var 4)) (.ret (.tup (.cons (.call .without (.cons (.var 3) (.cons (.var 1) .nil))) (.cons (.var 4) (.cons (.var 5) .nil)))) (.nil)) (.nil) (.ifs (.b2 .gt (.var 1) (.var 4)) (.ret (.tup (.cons (.var 3) (.cons (.var 4) (.cons (.call .without (.cons (.var 5) (.cons (.var 1) .nil))) .nil)))) (.nil)) (.nil) (.ifs (.or (.b2 .eq (.var 3) (.tup .nil)) (.b2 .eq (.var 5) (.tup .nil))) (.ret (.ite (.b2 .eq (.var 5) (.tup .nil)) (.var 3) (.var 5)) (.nil)) (.nil) (.set 2 (.call .least (.cons (.var 5) .nil)) (.ret (.tup (.cons (.var 3) (.cons (.var 2) (.cons (.call .without (.cons (.var 5) (.cons (.var 2) .nil))) .nil)))) (.nil))))))
def c_once_up : S := .ret (.ite (.b2 .eq (.b2 .ix (.var 0) (.cst (.int 1))) (.var 1)) (.var 0) (.call .turned (.cons (.var 0) (.cons (.var 1) .nil)))) (.nil)
def c_to_top : S := .whl (.b2 .ne (.b2 .ix (.var 0) (.cst (.int 1))) (.var 1)) (.set 0 (.call .turned (.cons (.var 0) (.cons (.var 1) .nil))) (.nil)) (.ret (.var 0) (.nil))
def c_way_down : S := .ifs (.b2 .eq (.b2 .ix (.var 0) (.cst (.int 1))) (.var 1)) (.ret (.lst (.cons (.var 1) .nil)) (.nil)) (.nil) (.ret (.b2 .add (.lst (.cons (.b2 .ix (.var 0) (.cst (.int 1))) .nil)) (.call .way_down (.cons (.ite (.b2 .lt (.var 1) (.b2 .ix (.var 0) (.cst (.int 1)))) (.b2 .ix (.var 0) (.cst (.int 0))) (.b2 .ix (.var 0) (.cst (.int 2)))) (.cons (.var 1) .nil)))) (.nil))
def c_splayed : S := .whl (.b2 .gt (.call .way_to (.cons (.var 0) (.cons (.var 1) .nil))) (.cst (.int 1))) (.unp true [3, 4] (.slc (.call .way_down (.cons (.var 0) (.cons (.var 1) .nil))) (.neg (.cst (.int 3))) (.neg (.cst (.int 1)))) (.set 2 (.ite (.b2 .eq (.b2 .lt (.var 1) (.var 4)) (.b2 .lt (.var 4) (.var 3))) (.var 4) (.var 1)) (.set 0 (.call .turned (.cons (.call .turned (.cons (.var 0) (.cons (.var 2) .nil))) (.cons (.var 1) .nil))) (.nil)))) (.ret (.call .once_up (.cons (.var 0) (.cons (.var 1) .nil))) (.nil))
def c_without_splayed : S := .unp false [3, 4, 5] (.call .splayed (.cons (.var 0) (.cons (.var 1) .nil))) (.ifs (.b2 .eq (.var 3) (.tup .nil)) (.ret (.var 5) (.nil)) (.nil) (.set 2 (.call .splayed (.cons (.var 3) (.cons (.call .greatest (.cons (.var 3) .nil)) .nil))) (.ret (.tup (.cons (.b2 .ix (.var 2) (.cst (.int 0))) (.cons (.b2 .ix (.var 2) (.cst (.int 1))) (.cons (.var 5) .nil)))) (.nil))))
def c_weight_of : S := .ret (.b2 .add (.call .size_of (.cons (.var 0) .nil)) (.cst (.int 1))) (.nil)
def c_set_right : S := .unp false [2, 3, 4] (.var 1) (.ifs (.call .is_greater (.cons (.var 0) (.cons (.var 2) (.cons (.var 4) .nil)))) (.ifs (.call .is_inner (.cons (.var 0) (.cons (.b2 .ix (.var 2) (.cst (.int 2))) (.cons (.b2 .ix (.var 2) (.cst (.int 0))) .nil)))) (.set 2 (.call .right_up (.cons (.var 2) .nil)) (.nil)) (.nil) (.ret (.call .left_up (.cons (.tup (.cons (.var 2) (.cons (.var 3) (.cons (.var 4) .nil)))) .nil)) (.nil))) (.nil) (.ifs (.call .is_greater (.cons (.var 0) (.cons (.var 4) (.cons (.var 2) .nil)))) (.ifs (.call .is_inner (.cons (.var 0) (.cons (.b2 .ix (.var 4) (.cst (.int 0))) (.cons (.b2 .ix (.var 4) (.cst (.int 2))) .nil)))) (.set 4 (.call .left_up (.cons (.var 4) .nil)) (.nil)) (.nil) (.ret (.call .right_up (.cons (.tup (.cons (.var 2) (.cons (.var 3) (.cons (.var 4) .nil)))) .nil)) (.nil))) (.nil) (.ret (.var 1) (.nil))))
def c_is_greater : S := .ifs (.b2 .eq (.var 0) (.cst (.str "heights"))) (.ret (.b2 .gt (.call .height_of (.cons (.var 1) .nil)) (.b2 .add (.call .height_of (.cons (.var 2) .nil)) (.cst (.int 1)))) (.nil)) (.nil) (.ret (.b2 .gt (.call .weight_of (.cons (.var 1) .nil)) (.b2 .mul (.cst (.int 3)) (.call .weight_of (.cons (.var 2) .nil)))) (.nil))
def c_is_inner : S := .ifs (.b2 .eq (.var 0) (.cst (.str "heights"))) (.ret (.b2 .gt (.call .height_of (.cons (.var 1) .nil)) (.call .height_of (.cons (.var 2) .nil))) (.nil)) (.nil) (.ret (.b2 .ge (.call .weight_of (.cons (.var 1) .nil)) (.b2 .mul (.cst (.int 2)) (.call .weight_of (.cons (.var 2) .nil)))) (.nil))
def c_put_right : S := .ifs (.b2 .eq (.var 1) (.tup .nil)) (.ret (.tup (.cons (.tup .nil) (.cons (.var 2) (.cons (.tup .nil) .nil)))) (.nil)) (.nil) (.unp false [3, 4, 5] (.var 1) (.ifs (.b2 .lt (.var 2) (.var 4)) (.ret (.call .set_right (.cons (.var 0) (.cons (.tup (.cons (.call .put_right (.cons (.var 0) (.cons (.var 3) (.cons (.var 2) .nil)))) (.cons (.var 4) (.cons (.var 5) .nil)))) .nil))) (.nil)) (.nil) (.ret (.call .set_right (.cons (.var 0) (.cons (.tup (.cons (.var 3) (.cons (.var 4) (.cons (.call .put_right (.cons (.var 0) (.cons (.var 5) (.cons (.var 2) .nil)))) .nil)))) .nil))) (.nil))))
def c_take_right : S := .unp false [4, 5, 6] (.var 1) (.ifs (.b2 .lt (.var 2) (.var 5)) (.ret (.call .set_right (.cons (.var 0) (.cons (.tup (.cons (.call .take_right (.cons (.var 0) (.cons (.var 4) (.cons (.var 2) .nil)))) (.cons (.var 5) (.cons (.var 6) .nil)))) .nil))) (.nil)) (.nil) (.ifs (.b2 .gt (.var 2) (.var 5)) (.ret (.call .set_right (.cons (.var 0) (.cons (.tup (.cons (.var 4) (.cons (.var 5) (.cons (.call .take_right (.cons (.var 0) (.cons (.var 6) (.cons (.var 2) .nil)))) .nil)))) .nil))) (.nil)) (.nil) (.ifs (.or (.b2 .eq (.var 4) (.tup .nil)) (.b2 .eq (.var 6) (.tup .nil))) (.ret (.ite (.b2 .eq (.var 6) (.tup .nil)) (.var 4) (.var 6)) (.nil)) (.nil) (.set 3 (.call .least (.cons (.var 6) .nil)) (.ret (.call .set_right (.cons (.var 0) (.cons (.tup (.cons (.var 4) (.cons (.var 3) (.cons (.call .take_right (.cons (.var 0) (.cons (.var 6) (.cons (.var 3) .nil)))) .nil)))) .nil))) (.nil))))))
def c_is_even : S := .ret (.b2 .le (.b2 .mul (.cst (.int 3)) (.b2 .max (.call .size_of (.cons (.b2 .ix (.var 0) (.cst (.int 0))) .nil)) (.call .size_of (.cons (.b2 .ix (.var 0) (.cst (.int 2))) .nil)))) (.b2 .mul (.cst (.int 2)) (.call .size_of (.cons (.var 0) .nil)))) (.nil)
def c_built : S := .ifs (.b2 .eq (.var 0) (.lst .nil)) (.ret (.tup .nil) (.nil)) (.nil) (.set 1 (.b2 .fdiv (.b1 .len (.var 0)) (.cst (.int 2))) (.ret (.tup (.cons (.call .built (.cons (.slc (.var 0) (.nil) (.var 1)) .nil)) (.cons (.b2 .ix (.var 0) (.var 1)) (.cons (.call .built (.cons (.slc (.var 0) (.b2 .add (.var 1) (.cst (.int 1))) (.nil)) .nil)) .nil)))) (.nil)))
def c_rebuilt : S := .ifs (.b2 .eq (.var 0) (.tup .nil)) (.ret (.tup .nil) (.nil)) (.nil) (.ifs (.not (.call .is_even (.cons (.var 0) .nil))) (.ret (.call .built (.cons (.call .keys_of (.cons (.var 0) .nil)) .nil)) (.nil)) (.nil) (.ret (.tup (.cons (.call .rebuilt (.cons (.b2 .ix (.var 0) (.cst (.int 0))) .nil)) (.cons (.b2 .ix (.var 0) (.cst (.int 1))) (.cons (.call .rebuilt (.cons (.b2 .ix (.var 0) (.cst (.int 2))) .nil)) .nil)))) (.nil)))
def c_put_rebuilt : S := .ret (.call .rebuilt (.cons (.call .with_leaf (.cons (.var 0) (.cons (.var 1) .nil))) .nil)) (.nil)
def c_take_rebuilt : S := .ret (.call .rebuilt (.cons (.call .without (.cons (.var 0) (.cons (.var 1) .nil))) .nil)) (.nil)
def c_rank_of : S := .ret (.ite (.b2 .ne (.var 0) (.tup .nil)) (.b2 .ix (.var 0) (.cst (.int 3))) (.cst (.int 0))) (.nil)
def c_ranked : S := .ifs (.b2 .eq (.var 0) (.tup .nil)) (.ret (.tup .nil) (.nil)) (.nil) (.set 1 (.call .ranked (.cons (.b2 .ix (.var 0) (.cst (.int 0))) .nil)) (.ret (.tup (.cons (.var 1) (.cons (.b2 .ix (.var 0) (.cst (.int 1))) (.cons (.call .ranked (.cons (.b2 .ix (.var 0) (.cst (.int 2))) .nil)) (.cons (.b2 .add (.call .rank_of (.cons (.var 1) .nil)) (.cst (.int 1))) .nil))))) (.nil)))
def c_bare : S := .ret (.ite (.b2 .ne (.var 0) (.tup .nil)) (.tup (.cons (.call .bare (.cons (.b2 .ix (.var 0) (.cst (.int 0))) .nil)) (.cons (.b2 .ix (.var 0) (.cst (.int 1))) (.cons (.call .bare (.cons (.b2 .ix (.var 0) (.cst (.int 2))) .nil)) .nil)))) (.tup .nil)) (.nil)
def c_skew : S := .ifs (.or (.b2 .eq (.var 0) (.tup .nil)) (.or (.b2 .eq (.b2 .ix (.var 0) (.cst (.int 0))) (.tup .nil)) (.b2 .ne (.call .rank_of (.cons (.b2 .ix (.var 0) (.cst (.int 0))) .nil)) (.call .rank_of (.cons (.var 0) .nil))))) (.ret (.var 0) (.nil)) (.nil) (.unp false [1, 2, 3, 4] (.var 0) (.ret (.tup (.cons (.b2 .ix (.var 1) (.cst (.int 0))) (.cons (.b2 .ix (.var 1) (.cst (.int 1))) (.cons (.tup (.cons (.b2 .ix (.var 1) (.cst (.int 2))) (.cons (.var 2) (.cons (.var 3) (.cons (.var 4) .nil))))) (.cons (.b2 .ix (.var 1) (.cst (.int 3))) .nil))))) (.nil)))
def c_split : S := .ifs (.or (.b2 .eq (.var 0) (.tup .nil)) (.or (.b2 .eq (.b2 .ix (.var 0) (.cst (.int 2))) (.tup .nil)) (.or (.b2 .eq (.b2 .ix (.b2 .ix (.var 0) (.cst (.int 2))) (.cst (.int 2))) (.tup .nil)) (.b2 .ne (.call .rank_of (.cons (.b2 .ix (.b2 .ix (.var 0) (.cst (.int 2))) (.cst (.int 2))) .nil)) (.call .rank_of (.cons (.var 0) .nil)))))) (.ret (.var 0) (.nil)) (.nil) (.unp false [1, 2, 3, 4] (.var 0) (.ret (.tup (.cons (.tup (.cons (.var 1) (.cons (.var 2) (.cons (.b2 .ix (.var 3) (.cst (.int 0))) (.cons (.var 4) .nil))))) (.cons (.b2 .ix (.var 3) (.cst (.int 1))) (.cons (.b2 .ix (.var 3) (.cst (.int 2))) (.cons (.b2 .add (.b2 .ix (.var 3) (.cst (.int 3))) (.cst (.int 1))) .nil))))) (.nil)))
def c_put_in : S := .ifs (.b2 .eq (.var 0) (.tup .nil)) (.ret (.tup (.cons (.tup .nil) (.cons (.var 1) (.cons (.tup .nil) (.cons (.cst (.int 1)) .nil))))) (.nil)) (.nil) (.unp false [2, 3, 4, 5] (.var 0) (.ifs (.b2 .lt (.var 1) (.var 3)) (.ret (.call .split (.cons (.call .skew (.cons (.tup (.cons (.call .put_in (.cons (.var 2) (.cons (.var 1) .nil))) (.cons (.var 3) (.cons (.var 4) (.cons (.var 5) .nil))))) .nil)) .nil)) (.nil)) (.nil) (.ret (.call .split (.cons (.call .skew (.cons (.tup (.cons (.var 2) (.cons (.var 3) (.cons (.call .put_in (.cons (.var 4) (.cons (.var 1) .nil))) (.cons (.var 5) .nil))))) .nil)) .nil)) (.nil))))
def c_with_right : S := .ret (.tup (.cons (.b2 .ix (.var 0) (.cst (.int 0))) (.cons (.b2 .ix (.var 0) (.cst (.int 1))) (.cons (.var 1) (.cons (.b2 .ix (.var 0) (.cst (.int 3))) .nil))))) (.nil)
def c_set_back : S := .unp false [2, 3, 4, 5] (.var 0) (.set 1 (.b2 .add (.b2 .min (.call .rank_of (.cons (.var 2) .nil)) (.call .rank_of (.cons (.var 4) .nil))) (.cst (.int 1))) (.ifs (.b2 .lt (.var 1) (.var 5)) (.set 5 (.var 1) (.ifs (.b2 .lt (.var 1) (.call .rank_of (.cons (.var 4) .nil))) (.set 4 (.tup (.cons (.b2 .ix (.var 4) (.cst (.int 0))) (.cons (.b2 .ix (.var 4) (.cst (.int 1))) (.cons (.b2 .ix (.var 4) (.cst (.int 2))) (.cons (.var 1) .nil))))) (.nil)) (.nil) (.nil))) (.nil) (.set 0 (.call .skew (.cons (.tup (.cons (.var 2) (.cons (.var 3) (.cons (.var 4) (.cons (.var 5) .nil))))) .nil)) (.ifs (.b2 .ne (.b2 .ix (.var 0) (.cst (.int 2))) (.tup .nil)) (.set 0 (.call .with_right (.cons (.var 0) (.cons (.call .skew (.cons (.b2 .ix (.var 0) (.cst (.int 2))) .nil)) .nil))) (.nil)) (.nil) (.ifs (.and (.b2 .ne (.b2 .ix (.var 0) (.cst (.int 2))) (.tup .nil)) (.b2 .ne (.b2 .ix (.b2 .ix (.var 0) (.cst (.int 2))) (.cst (.int 2))) (.tup .nil))) (.set 0 (.call .with_right (.cons (.var 0) (.cons (.call .with_right (.cons (.b2 .ix (.var 0) (.cst (.int 2))) (.cons (.call .skew (.cons (.b2 .ix (.b2 .ix (.var 0) (.cst (.int 2))) (.cst (.int 2))) .nil)) .nil))) .nil))) (.nil)) (.nil) (.set 0 (.call .split (.cons (.var 0) .nil)) (.ret (.ite (.b2 .ne (.b2 .ix (.var 0) (.cst (.int 2))) (.tup .nil)) (.call .with_right (.cons (.var 0) (.cons (.call .split (.cons (.b2 .ix (.var 0) (.cst (.int 2))) .nil)) .nil))) (.var 0)) (.nil))))))))
def c_take_out : S := .unp false [3, 4, 5, 6] (.var 0) (.ifs (.b2 .lt (.var 1) (.var 4)) (.ret (.call .set_back (.cons (.tup (.cons (.call .take_out (.cons (.var 3) (.cons (.var 1) .nil))) (.cons (.var 4) (.cons (.var 5) (.cons (.var 6) .nil))))) .nil)) (.nil)) (.nil) (.ifs (.b2 .gt (.var 1) (.var 4)) (.ret (.call .set_back (.cons (.tup (.cons (.var 3) (.cons (.var 4) (.cons (.call .take_out (.cons (.var 5) (.cons (.var 1) .nil))) (.cons (.var 6) .nil))))) .nil)) (.nil)) (.nil) (.ifs (.and (.b2 .eq (.var 3) (.tup .nil)) (.b2 .eq (.var 5) (.tup .nil))) (.ret (.tup .nil) (.nil)) (.nil) (.ifs (.b2 .ne (.var 3) (.tup .nil)) (.set 2 (.call .greatest (.cons (.var 3) .nil)) (.ret (.call .set_back (.cons (.tup (.cons (.call .take_out (.cons (.var 3) (.cons (.var 2) .nil))) (.cons (.var 2) (.cons (.var 5) (.cons (.var 6) .nil))))) .nil)) (.nil))) (.nil) (.set 2 (.call .least (.cons (.var 5) .nil)) (.ret (.call .set_back (.cons (.tup (.cons (.var 3) (.cons (.var 2) (.cons (.call .take_out (.cons (.var 5) (.cons (.var 2) .nil))) (.cons (.var 6) .nil))))) .nil)) (.nil)))))))
def c_is_rule : S := .ifs (.or (.not (.b1 (.isi .tuple) (.var 0))) (.or (.b2 .eq (.var 0) (.tup .nil)) (.not (.b1 (.isi .str) (.b2 .ix (.var 0) (.cst (.int 0))))))) (.ret (.cst (.bool false)) (.nil)) (.nil) (.ifs (.b2 .inn (.b2 .ix (.var 0) (.cst (.int 0))) (.glb .FAMILY)) (.ret (.b2 .eq (.b1 .len (.var 0)) (.cst (.int 1))) (.nil)) (.nil) (.ifs (.or (.b2 .ne (.b2 .ix (.var 0) (.cst (.int 0))) (.cst (.str "ranks"))) (.or (.b2 .ne (.b1 .len (.var 0)) (.cst (.int 2))) (.not (.b1 (.isi .tuple) (.b2 .ix (.var 0) (.cst (.int 1))))))) (.ret (.cst (.bool false)) (.nil)) (.nil) (.ifs (.not (.b1 .all (.comp false 1 (.b2 .ix (.var 0) (.cst (.int 1))) (.nil) (.call .is_number (.cons (.var 1) (.cons (.cst (.int 1)) (.cons (.glb .MOST) .nil))))))) (.ret (.cst (.bool false)) (.nil)) (.nil) (.ret (.b2 .eq (.b1 .sorted (.b2 .ix (.var 0) (.cst (.int 1)))) (.rng (.cst (.int 1)) (.b2 .add (.glb .MOST) (.cst (.int 1))))) (.nil)))))
def c_need_rule : S := .ifs (.not (.call .is_rule (.cons (.var 0) .nil))) (.nev (.nil)) (.nil) (.nil)
def c_by_order : S := .ifs (.b2 .eq (.var 0) (.lst .nil)) (.ret (.tup .nil) (.nil)) (.nil) (.set 2 (.b2 .ix (.comp false 3 (.var 1) (.b2 .inn (.var 3) (.var 0)) (.var 3)) (.cst (.int 0))) (.ret (.tup (.cons (.call .by_order (.cons (.comp true 3 (.var 0) (.b2 .lt (.var 3) (.var 2)) (.var 3)) (.cons (.var 1) .nil))) (.cons (.var 2) (.cons (.call .by_order (.cons (.comp true 3 (.var 0) (.b2 .gt (.var 3) (.var 2)) (.var 3)) (.cons (.var 1) .nil))) .nil)))) (.nil)))
def c_with_key : S := .ifs (.b2 .inn (.b2 .ix (.var 0) (.cst (.int 0))) (.tup (.cons (.cst (.str "heights")) (.cons (.cst (.str "weights")) .nil)))) (.ret (.call .put_right (.cons (.b2 .ix (.var 0) (.cst (.int 0))) (.cons (.var 1) (.cons (.var 2) .nil)))) (.nil)) (.nil) (.ifs (.b2 .eq (.b2 .ix (.var 0) (.cst (.int 0))) (.cst (.str "levels"))) (.ret (.call .bare (.cons (.call .put_in (.cons (.call .ranked (.cons (.var 1) .nil)) (.cons (.var 2) .nil))) .nil)) (.nil)) (.nil) (.ifs (.b2 .eq (.b2 .ix (.var 0) (.cst (.int 0))) (.cst (.str "rebuilt"))) (.ret (.call .put_rebuilt (.cons (.var 1) (.cons (.var 2) .nil))) (.nil)) (.nil) (.ifs (.b2 .eq (.b2 .ix (.var 0) (.cst (.int 0))) (.cst (.str "ranks"))) (.ret (.call .by_order (.cons (.b2 .add (.call .keys_of (.cons (.var 1) .nil)) (.lst (.cons (.var 2) .nil))) (.cons (.b2 .ix (.var 0) (.cst (.int 1))) .nil))) (.nil)) (.nil) (.ret (.call .moved (.cons (.var 0) (.cons (.call .with_leaf (.cons (.var 1) (.cons (.var 2) .nil))) (.cons (.var 2) .nil)))) (.nil)))))
def c_without_key : S := .ifs (.b2 .inn (.b2 .ix (.var 0) (.cst (.int 0))) (.tup (.cons (.cst (.str "heights")) (.cons (.cst (.str "weights")) .nil)))) (.ret (.call .take_right (.cons (.b2 .ix (.var 0) (.cst (.int 0))) (.cons (.var 1) (.cons (.var 2) .nil)))) (.nil)) (.nil) (.ifs (.b2 .eq (.b2 .ix (.var 0) (.cst (.int 0))) (.cst (.str "levels"))) (.ret (.call .bare (.cons (.call .take_out (.cons (.call .ranked (.cons (.var 1) .nil)) (.cons (.var 2) .nil))) .nil)) (.nil)) (.nil) (.ifs (.b2 .eq (.b2 .ix (.var 0) (.cst (.int 0))) (.cst (.str "rebuilt"))) (.ret (.call .take_rebuilt (.cons (.var 1) (.cons (.var 2) .nil))) (.nil)) (.nil) (.ifs (.b2 .eq (.b2 .ix (.var 0) (.cst (.int 0))) (.cst (.str "ranks"))) (.ret (.call .by_order (.cons (.comp true 3 (.call .keys_of (.cons (.var 1) .nil)) (.b2 .ne (.var 3) (.var 2)) (.var 3)) (.cons (.b2 .ix (.var 0) (.cst (.int 1))) .nil))) (.nil)) (.nil) (.ret (.ite (.b2 .eq (.b2 .ix (.var 0) (.cst (.int 0))) (.cst (.str "splayed"))) (.call .without_splayed (.cons (.var 1) (.cons (.var 2) .nil))) (.call .without (.cons (.var 1) (.cons (.var 2) .nil)))) (.nil)))))
def c_moved : S := .ifs (.b2 .eq (.b2 .ix (.var 0) (.cst (.int 0))) (.cst (.str "once"))) (.ret (.call .once_up (.cons (.var 1) (.cons (.var 2) .nil))) (.nil)) (.nil) (.ifs (.b2 .eq (.b2 .ix (.var 0) (.cst (.int 0))) (.cst (.str "top"))) (.ret (.call .to_top (.cons (.var 1) (.cons (.var 2) .nil))) (.nil)) (.nil) (.ret (.ite (.b2 .eq (.b2 .ix (.var 0) (.cst (.int 0))) (.cst (.str "splayed"))) (.call .splayed (.cons (.var 1) (.cons (.var 2) .nil))) (.var 1)) (.nil)))
def c_behind : S := .ifs (.b2 .eq (.b2 .ix (.var 2) (.cst (.int 0))) (.cst (.str "ask"))) (.ret (.call .moved (.cons (.var 0) (.cons (.var 1) (.cons (.b2 .ix (.var 2) (.cst (.int 1))) .nil)))) (.nil)) (.nil) (.ret (.ite (.b2 .eq (.b2 .ix (.var 2) (.cst (.int 0))) (.cst (.str "in"))) (.call .with_key (.cons (.var 0) (.cons (.var 1) (.cons (.b2 .ix (.var 2) (.cst (.int 1))) .nil)))) (.call .without_key (.cons (.var 0) (.cons (.var 1) (.cons (.b2 .ix (.var 2) (.cst (.int 1))) .nil))))) (.nil))
def c_cost_of : S := .ret (.b2 .add (.call .way_to (.cons (.var 0) (.cons (.b2 .ix (.var 1) (.cst (.int 1))) .nil))) (.b2 .ne (.b2 .ix (.var 1) (.cst (.int 0))) (.cst (.str "in")))) (.nil)
def c_is_deed : S := .ifs (.or (.not (.b1 (.isi .tuple) (.var 0))) (.or (.b2 .ne (.b1 .len (.var 0)) (.cst (.int 2))) (.not (.b1 (.isi .str) (.b2 .ix (.var 0) (.cst (.int 0))))))) (.ret (.cst (.bool false)) (.nil)) (.nil) (.ret (.and (.b2 .inn (.b2 .ix (.var 0) (.cst (.int 0))) (.tup (.cons (.cst (.str "ask")) (.cons (.cst (.str "in")) (.cons (.cst (.str "out")) .nil))))) (.call .is_number (.cons (.b2 .ix (.var 0) (.cst (.int 1))) (.cons (.cst (.int 1)) (.cons (.glb .MOST) .nil))))) (.nil))
def c_is_possible : S := .ret (.b2 .eq (.b2 .inn (.b2 .ix (.var 1) (.cst (.int 1))) (.call .keys_of (.cons (.var 0) .nil))) (.b2 .ne (.b2 .ix (.var 1) (.cst (.int 0))) (.cst (.str "in")))) (.nil)
def c_need_deed : S := .ifs (.or (.not (.call .is_deed (.cons (.var 1) .nil))) (.not (.call .is_possible (.cons (.var 0) (.cons (.var 1) .nil))))) (.nev (.nil)) (.nil) (.nil)
def c_cost : S := .drop (.call .need_shape (.cons (.var 0) .nil)) (.drop (.call .need_deed (.cons (.var 0) (.cons (.var 1) .nil))) (.ret (.call .cost_of (.cons (.var 0) (.cons (.var 1) .nil))) (.nil)))
def c_is_row : S := .ifs (.or (.not (.b1 (.isi .list) (.var 0))) (.or (.b2 .gt (.b1 .len (.var 0)) (.glb .DEEDS)) (.not (.b1 .all (.comp true 1 (.var 0) (.nil) (.call .is_deed (.cons (.var 1) .nil))))))) (.ret (.cst (.bool false)) (.nil)) (.nil) (.ret (.notN (.call .keys_along (.cons (.var 0) .nil))) (.nil))
def c_need_row : S := .ifs (.not (.call .is_row (.cons (.var 0) .nil))) (.nev (.nil)) (.nil) (.nil)
def c_need_run : S := .drop (.call .need_rule (.cons (.var 0) .nil)) (.drop (.call .need_row (.cons (.var 1) .nil)) (.nil))
def c_shapes_along : S := .drop (.call .need_run (.cons (.var 0) (.cons (.var 1) .nil))) (.ret (.b2 .ix (.call .run (.cons (.var 0) (.cons (.var 1) .nil))) (.cst (.int 0))) (.nil))
def c_costs_along : S := .drop (.call .need_run (.cons (.var 0) (.cons (.var 1) .nil))) (.ret (.b2 .ix (.call .run (.cons (.var 0) (.cons (.var 1) .nil))) (.cst (.int 1))) (.nil))
def c__law_keys : S := .ret (.ite (.b2 .ne (.var 0) (.tup .nil)) (.b2 .add (.b2 .add (.call ._law_keys (.cons (.b2 .ix (.var 0) (.cst (.int 0))) .nil)) (.lst (.cons (.b2 .ix (.var 0) (.cst (.int 1))) .nil))) (.call ._law_keys (.cons (.b2 .ix (.var 0) (.cst (.int 2))) .nil))) (.lst .nil)) (.nil)
def c__law_tall : S := .ret (.ite (.b2 .ne (.var 0) (.tup .nil)) (.b2 .add (.cst (.int 1)) (.b2 .max (.call ._law_tall (.cons (.b2 .ix (.var 0) (.cst (.int 0))) .nil)) (.call ._law_tall (.cons (.b2 .ix (.var 0) (.cst (.int 2))) .nil)))) (.cst (.int 0))) (.nil)
def c__law_path : S := .ifs (.b2 .eq (.var 0) (.tup .nil)) (.ret (.lst .nil) (.nil)) (.nil) (.ifs (.b2 .eq (.b2 .ix (.var 0) (.cst (.int 1))) (.var 1)) (.ret (.lst (.cons (.var 1) .nil)) (.nil)) (.nil) (.ret (.b2 .add (.lst (.cons (.b2 .ix (.var 0) (.cst (.int 1))) .nil)) (.call ._law_path (.cons (.ite (.b2 .lt (.var 1) (.b2 .ix (.var 0) (.cst (.int 1)))) (.b2 .ix (.var 0) (.cst (.int 0))) (.b2 .ix (.var 0) (.cst (.int 2)))) (.cons (.var 1) .nil)))) (.nil)))
def c__law_plant : S := .ifs (.b2 .eq (.var 0) (.lst .nil)) (.ret (.tup .nil) (.nil)) (.nil) (.set 1 (.b2 .ix (.var 0) (.cst (.int 0))) (.ret (.tup (.cons (.call ._law_plant (.cons (.comp true 2 (.var 0) (.b2 .lt (.var 2) (.var 1)) (.var 2)) .nil)) (.cons (.var 1) (.cons (.call ._law_plant (.cons (.comp true 2 (.var 0) (.b2 .gt (.var 2) (.var 1)) (.var 2)) .nil)) .nil)))) (.nil)))
def c__law_order : S := .ret (.ite (.b2 .ne (.var 0) (.tup .nil)) (.b2 .add (.b2 .add (.lst (.cons (.b2 .ix (.var 0) (.cst (.int 1))) .nil)) (.call ._law_order (.cons (.b2 .ix (.var 0) (.cst (.int 0))) .nil))) (.call ._law_order (.cons (.b2 .ix (.var 0) (.cst (.int 2))) .nil))) (.lst .nil)) (.nil)
def c__law_turn : S := .unp false [2, 3, 4] (.var 0) (.ifs (.and (.b2 .ne (.var 2) (.tup .nil)) (.b2 .eq (.b2 .ix (.var 2) (.cst (.int 1))) (.var 1))) (.ret (.tup (.cons (.b2 .ix (.var 2) (.cst (.int 0))) (.cons (.var 1) (.cons (.tup (.cons (.b2 .ix (.var 2) (.cst (.int 2))) (.cons (.var 3) (.cons (.var 4) .nil)))) .nil)))) (.nil)) (.nil) (.ifs (.and (.b2 .ne (.var 4) (.tup .nil)) (.b2 .eq (.b2 .ix (.var 4) (.cst (.int 1))) (.var 1))) (.ret (.tup (.cons (.tup (.cons (.var 2) (.cons (.var 3) (.cons (.b2 .ix (.var 4) (.cst (.int 0))) .nil)))) (.cons (.var 1) (.cons (.b2 .ix (.var 4) (.cst (.int 2))) .nil)))) (.nil)) (.nil) (.ifs (.b2 .lt (.var 1) (.var 3)) (.ret (.tup (.cons (.call ._law_turn (.cons (.var 2) (.cons (.var 1) .nil))) (.cons (.var 3) (.cons (.var 4) .nil)))) (.nil)) (.nil) (.ret (.tup (.cons (.var 2) (.cons (.var 3) (.cons (.call ._law_turn (.cons (.var 4) (.cons (.var 1) .nil))) .nil)))) (.nil)))))
def c__law_leaf : S := .ret (.call ._law_plant (.cons (.b2 .add (.call ._law_order (.cons (.var 0) .nil)) (.lst (.cons (.var 1) .nil))) .nil)) (.nil)
def c__law_part : S := .whl (.b2 .ne (.b2 .ix (.var 0) (.cst (.int 1))) (.var 1)) (.set 0 (.ite (.b2 .lt (.var 1) (.b2 .ix (.var 0) (.cst (.int 1)))) (.b2 .ix (.var 0) (.cst (.int 0))) (.b2 .ix (.var 0) (.cst (.int 2)))) (.nil)) (.ret (.var 0) (.nil))
def c__law_put : S := .ifs (.b2 .eq (.b2 .ix (.var 0) (.cst (.int 1))) (.var 1)) (.ret (.var 2) (.nil)) (.nil) (.ifs (.b2 .lt (.var 1) (.b2 .ix (.var 0) (.cst (.int 1)))) (.ret (.tup (.cons (.call ._law_put (.cons (.b2 .ix (.var 0) (.cst (.int 0))) (.cons (.var 1) (.cons (.var 2) .nil)))) (.cons (.b2 .ix (.var 0) (.cst (.int 1))) (.cons (.b2 .ix (.var 0) (.cst (.int 2))) .nil)))) (.nil)) (.nil) (.ret (.tup (.cons (.b2 .ix (.var 0) (.cst (.int 0))) (.cons (.b2 .ix (.var 0) (.cst (.int 1))) (.cons (.call ._law_put (.cons (.b2 .ix (.var 0) (.cst (.int 2))) (.cons (.var 1) (.cons (.var 2) .nil)))) .nil)))) (.nil)))
def c__law_out : S := .unp false [5, 6, 7] (.call ._law_part (.cons (.var 0) (.cons (.var 1) .nil))) (.set 2 (.slc (.call ._law_path (.cons (.var 0) (.cons (.var 1) .nil))) (.nil) (.neg (.cst (.int 1)))) (.ifs (.or (.b2 .eq (.var 5) (.tup .nil)) (.b2 .eq (.var 7) (.tup .nil))) (.ret (.tup (.cons (.call ._law_put (.cons (.var 0) (.cons (.var 1) (.cons (.ite (.b2 .eq (.var 7) (.tup .nil)) (.var 5) (.var 7)) .nil)))) (.cons (.var 2) .nil))) (.nil)) (.nil) (.set 3 (.b2 .ix (.call ._law_keys (.cons (.var 7) .nil)) (.cst (.int 0))) (.set 4 (.slc (.call ._law_path (.cons (.var 7) (.cons (.var 3) .nil))) (.nil) (.neg (.cst (.int 1)))) (.ret (.tup (.cons (.call ._law_put (.cons (.var 0) (.cons (.var 1) (.cons (.tup (.cons (.var 5) (.cons (.var 3) (.cons (.b2 .ix (.call ._law_out (.cons (.var 7) (.cons (.var 3) .nil))) (.cst (.int 0))) .nil)))) .nil)))) (.cons (.b2 .add (.b2 .add (.var 2) (.lst (.cons (.var 3) .nil))) (.var 4)) .nil))) (.nil))))))
def c__law_heavy : S := .ifs (.b2 .eq (.var 0) (.cst (.str "heights"))) (.ret (.b2 .gt (.b2 .sub (.call ._law_tall (.cons (.var 1) .nil)) (.call ._law_tall (.cons (.var 2) .nil))) (.cst (.int 1))) (.nil)) (.nil) (.ret (.b2 .gt (.b2 .add (.b1 .len (.call ._law_keys (.cons (.var 1) .nil))) (.cst (.int 1))) (.b2 .mul (.cst (.int 3)) (.b2 .add (.b1 .len (.call ._law_keys (.cons (.var 2) .nil))) (.cst (.int 1))))) (.nil))
def c__law_inner : S := .ifs (.b2 .eq (.var 0) (.cst (.str "heights"))) (.ret (.b2 .gt (.call ._law_tall (.cons (.var 1) .nil)) (.call ._law_tall (.cons (.var 2) .nil))) (.nil)) (.nil) (.ret (.b2 .ge (.b2 .add (.b1 .len (.call ._law_keys (.cons (.var 1) .nil))) (.cst (.int 1))) (.b2 .mul (.cst (.int 2)) (.b2 .add (.b1 .len (.call ._law_keys (.cons (.var 2) .nil))) (.cst (.int 1))))) (.nil))
def c__law_fixed : S := .unp false [3, 4, 5] (.call ._law_part (.cons (.var 1) (.cons (.var 2) .nil))) (.ifs (.call ._law_heavy (.cons (.var 0) (.cons (.var 3) (.cons (.var 5) .nil)))) (.set 6 (.b2 .ix (.var 3) (.cst (.int 1))) (.ifs (.call ._law_inner (.cons (.var 0) (.cons (.b2 .ix (.var 3) (.cst (.int 2))) (.cons (.b2 .ix (.var 3) (.cst (.int 0))) .nil)))) (.set 6 (.b2 .ix (.b2 .ix (.var 3) (.cst (.int 2))) (.cst (.int 1))) (.set 1 (.call ._law_turn (.cons (.var 1) (.cons (.var 6) .nil))) (.nil))) (.nil) (.ret (.call ._law_turn (.cons (.var 1) (.cons (.var 6) .nil))) (.nil)))) (.nil) (.ifs (.call ._law_heavy (.cons (.var 0) (.cons (.var 5) (.cons (.var 3) .nil)))) (.set 6 (.b2 .ix (.var 5) (.cst (.int 1))) (.ifs (.call ._law_inner (.cons (.var 0) (.cons (.b2 .ix (.var 5) (.cst (.int 0))) (.cons (.b2 .ix (.var 5) (.cst (.int 2))) .nil)))) (.set 6 (.b2 .ix (.b2 .ix (.var 5) (.cst (.int 0))) (.cst (.int 1))) (.set 1 (.call ._law_turn (.cons (.var 1) (.cons (.var 6) .nil))) (.nil))) (.nil) (.ret (.call ._law_turn (.cons (.var 1) (.cons (.var 6) .nil))) (.nil)))) (.nil) (.ret (.var 1) (.nil))))
def c__law_set : S := .forl 3 (.rev (.var 2)) (.set 1 (.call ._law_fixed (.cons (.var 0) (.cons (.var 1) (.cons (.var 3) .nil)))) (.nil)) (.ret (.var 1) (.nil))
def c__law_even : S := .ifs (.b2 .eq (.var 0) (.lst .nil)) (.ret (.tup .nil) (.nil)) (.nil) (.set 1 (.b2 .fdiv (.b1 .len (.var 0)) (.cst (.int 2))) (.ret (.tup (.cons (.call ._law_even (.cons (.slc (.var 0) (.nil) (.var 1)) .nil)) (.cons (.b2 .ix (.var 0) (.var 1)) (.cons (.call ._law_even (.cons (.slc (.var 0) (.b2 .add (.var 1) (.cst (.int 1))) (.nil)) .nil)) .nil)))) (.nil)))
def c__law_is_even : S := .ret (.b2 .le (.b2 .mul (.cst (.int 3)) (.b2 .max (.b1 .len (.call ._law_keys (.cons (.b2 .ix (.var 0) (.cst (.int 0))) .nil))) (.b1 .len (.call ._law_keys (.cons (.b2 .ix (.var 0) (.cst (.int 2))) .nil))))) (.b2 .mul (.cst (.int 2)) (.b1 .len (.call ._law_keys (.cons (.var 0) .nil))))) (.nil)
def c__law_again : S := .ifs (.b2 .eq (.var 0) (.tup .nil)) (.ret (.tup .nil) (.nil)) (.nil) (.ifs (.not (.call ._law_is_even (.cons (.var 0) .nil))) (.ret (.call ._law_even (.cons (.call ._law_keys (.cons (.var 0) .nil)) .nil)) (.nil)) (.nil) (.ret (.tup (.cons (.call ._law_again (.cons (.b2 .ix (.var 0) (.cst (.int 0))) .nil)) (.cons (.b2 .ix (.var 0) (.cst (.int 1))) (.cons (.call ._law_again (.cons (.b2 .ix (.var 0) (.cst (.int 2))) .nil)) .nil)))) (.nil)))
def c__law_splay : S := .set 2 (.call ._law_path (.cons (.var 0) (.cons (.var 1) .nil))) (.whl (.b2 .gt (.b1 .len (.var 2)) (.cst (.int 2))) (.par 3 4 (.cons (.b2 .ix (.var 2) (.neg (.cst (.int 3)))) (.cons (.b2 .ix (.var 2) (.neg (.cst (.int 2)))) .nil)) (.set 0 (.call ._law_turn (.cons (.var 0) (.cons (.ite (.b2 .eq (.b2 .lt (.var 4) (.var 3)) (.b2 .lt (.var 1) (.var 4))) (.var 4) (.var 1)) .nil))) (.set 0 (.call ._law_turn (.cons (.var 0) (.cons (.var 1) .nil))) (.set 2 (.call ._law_path (.cons (.var 0) (.cons (.var 1) .nil))) (.nil))))) (.ret (.ite (.b2 .eq (.b1 .len (.var 2)) (.cst (.int 1))) (.var 0) (.call ._law_turn (.cons (.var 0) (.cons (.var 1) .nil)))) (.nil)))
def c__law_moved : S := .ifs (.b2 .eq (.var 0) (.cst (.str "splayed"))) (.ret (.call ._law_splay (.cons (.var 1) (.cons (.var 2) .nil))) (.nil)) (.nil) (.ifs (.and (.b2 .eq (.var 0) (.cst (.str "once"))) (.b2 .ne (.b2 .ix (.var 1) (.cst (.int 1))) (.var 2))) (.ret (.call ._law_turn (.cons (.var 1) (.cons (.var 2) .nil))) (.nil)) (.nil) (.whl (.and (.b2 .eq (.var 0) (.cst (.str "top"))) (.b2 .ne (.b2 .ix (.var 1) (.cst (.int 1))) (.var 2))) (.set 1 (.call ._law_turn (.cons (.var 1) (.cons (.var 2) .nil))) (.nil)) (.ret (.var 1) (.nil))))
def c__law_splay_out : S := .unp false [3, 4, 5] (.call ._law_splay (.cons (.var 0) (.cons (.var 1) .nil))) (.ifs (.b2 .eq (.var 3) (.tup .nil)) (.ret (.var 5) (.nil)) (.nil) (.set 2 (.call ._law_splay (.cons (.var 3) (.cons (.b2 .ix (.call ._law_keys (.cons (.var 3) .nil)) (.neg (.cst (.int 1)))) .nil))) (.ret (.tup (.cons (.b2 .ix (.var 2) (.cst (.int 0))) (.cons (.b2 .ix (.var 2) (.cst (.int 1))) (.cons (.var 5) .nil)))) (.nil))))
def c__law_in : S := .set 3 (.b2 .ix (.var 0) (.cst (.int 0))) (.ifs (.b2 .inn (.var 3) (.tup (.cons (.cst (.str "heights")) (.cons (.cst (.str "weights")) .nil)))) (.ret (.call ._law_set (.cons (.var 3) (.cons (.call ._law_leaf (.cons (.var 1) (.cons (.var 2) .nil))) (.cons (.call ._law_path (.cons (.var 1) (.cons (.var 2) .nil))) .nil)))) (.nil)) (.nil) (.ifs (.b2 .eq (.var 3) (.cst (.str "levels"))) (.ret (.lvl true (.var 1) (.var 2)) (.nil)) (.nil) (.ifs (.b2 .eq (.var 3) (.cst (.str "rebuilt"))) (.ret (.call ._law_again (.cons (.call ._law_leaf (.cons (.var 1) (.cons (.var 2) .nil))) .nil)) (.nil)) (.nil) (.ifs (.b2 .eq (.var 3) (.cst (.str "ranks"))) (.set 4 (.b2 .add (.call ._law_keys (.cons (.var 1) .nil)) (.lst (.cons (.var 2) .nil))) (.ret (.call ._law_plant (.cons (.comp false 5 (.b2 .ix (.var 0) (.cst (.int 1))) (.b2 .inn (.var 5) (.var 4)) (.var 5)) .nil)) (.nil))) (.nil) (.ret (.call ._law_moved (.cons (.var 3) (.cons (.call ._law_leaf (.cons (.var 1) (.cons (.var 2) .nil))) (.cons (.var 2) .nil)))) (.nil))))))
def c__law_after : S := .unp false [3, 4] (.tup (.cons (.b2 .ix (.var 0) (.cst (.int 0))) (.cons (.b2 .ix (.var 2) (.cst (.int 1))) .nil))) (.ifs (.b2 .eq (.b2 .ix (.var 2) (.cst (.int 0))) (.cst (.str "ask"))) (.ret (.call ._law_moved (.cons (.var 3) (.cons (.var 1) (.cons (.var 4) .nil)))) (.nil)) (.nil) (.ifs (.b2 .eq (.b2 .ix (.var 2) (.cst (.int 0))) (.cst (.str "in"))) (.ret (.call ._law_in (.cons (.var 0) (.cons (.var 1) (.cons (.var 4) .nil)))) (.nil)) (.nil) (.ifs (.b2 .eq (.var 3) (.cst (.str "levels"))) (.ret (.lvl false (.var 1) (.var 4)) (.nil)) (.nil) (.ifs (.b2 .eq (.var 3) (.cst (.str "ranks"))) (.ret (.call ._law_plant (.cons (.comp false 7 (.b2 .ix (.var 0) (.cst (.int 1))) (.and (.b2 .inn (.var 7) (.call ._law_keys (.cons (.var 1) .nil))) (.b2 .ne (.var 7) (.var 4))) (.var 7)) .nil)) (.nil)) (.nil) (.ifs (.b2 .eq (.var 3) (.cst (.str "splayed"))) (.ret (.call ._law_splay_out (.cons (.var 1) (.cons (.var 4) .nil))) (.nil)) (.nil) (.unp false [5, 6] (.call ._law_out (.cons (.var 1) (.cons (.var 4) .nil))) (.ifs (.b2 .eq (.var 3) (.cst (.str "rebuilt"))) (.ret (.call ._law_again (.cons (.var 5) .nil)) (.nil)) (.nil) (.ret (.ite (.b2 .inn (.var 3) (.tup (.cons (.cst (.str "heights")) (.cons (.cst (.str "weights")) .nil)))) (.call ._law_set (.cons (.var 3) (.cons (.var 5) (.cons (.var 6) .nil)))) (.var 5)) (.nil)))))))))
def c__law_price : S := .ret (.b1 .len (.call ._law_path (.cons (.var 0) (.cons (.b2 .ix (.var 1) (.cst (.int 1))) .nil)))) (.nil)
def code : F → S
  | .is_number => c_is_number
  | .is_between => c_is_between
  | .is_shape => c_is_shape
  | .need_shape => c_need_shape
  | .keys_of => c_keys_of
  | .size_of => c_size_of
  | .height_of => c_height_of
  | .way_to => c_way_to
  | .left_up => c_left_up
  | .right_up => c_right_up
  | .turned => c_turned
  | .with_leaf => c_with_leaf
  | .least => c_least
  | .greatest => c_greatest
  | .without => c_without
  | .once_up => c_once_up
  | .to_top => c_to_top
  | .way_down => c_way_down
  | .splayed => c_splayed
  | .without_splayed => c_without_splayed
  | .weight_of => c_weight_of
  | .set_right => c_set_right
  | .is_greater => c_is_greater
  | .is_inner => c_is_inner
  | .put_right => c_put_right
  | .take_right => c_take_right
  | .is_even => c_is_even
  | .built => c_built
  | .rebuilt => c_rebuilt
  | .put_rebuilt => c_put_rebuilt
  | .take_rebuilt => c_take_rebuilt
  | .rank_of => c_rank_of
  | .ranked => c_ranked
  | .bare => c_bare
  | .skew => c_skew
  | .split => c_split
  | .put_in => c_put_in
  | .with_right => c_with_right
  | .set_back => c_set_back
  | .take_out => c_take_out
  | .is_rule => c_is_rule
  | .need_rule => c_need_rule
  | .by_order => c_by_order
  | .with_key => c_with_key
  | .without_key => c_without_key
  | .moved => c_moved
  | .behind => c_behind
  | .cost_of => c_cost_of
  | .is_deed => c_is_deed
  | .is_possible => c_is_possible
  | .need_deed => c_need_deed
  | .cost => c_cost
  | .keys_along => .nil
  | .is_row => c_is_row
  | .need_row => c_need_row
  | .run => .nil
  | .need_run => c_need_run
  | .shapes_along => c_shapes_along
  | .costs_along => c_costs_along
  | ._law_keys => c__law_keys
  | ._law_tall => c__law_tall
  | ._law_path => c__law_path
  | ._law_plant => c__law_plant
  | ._law_order => c__law_order
  | ._law_turn => c__law_turn
  | ._law_leaf => c__law_leaf
  | ._law_part => c__law_part
  | ._law_put => c__law_put
  | ._law_out => c__law_out
  | ._law_heavy => c__law_heavy
  | ._law_inner => c__law_inner
  | ._law_fixed => c__law_fixed
  | ._law_set => c__law_set
  | ._law_even => c__law_even
  | ._law_is_even => c__law_is_even
  | ._law_again => c__law_again
  | ._law_splay => c__law_splay
  | ._law_moved => c__law_moved
  | ._law_splay_out => c__law_splay_out
  | ._law_in => c__law_in
  | ._law_after => c__law_after
  | ._law_price => c__law_price
def nms : F → List Str
  | .is_number => ["value", "least", "most"]
  | .is_between => ["value", "low", "high"]
  | .is_shape => ["candidate"]
  | .need_shape => ["value"]
  | .keys_of => ["shape"]
  | .size_of => ["shape"]
  | .height_of => ["shape"]
  | .way_to => ["shape", "key"]
  | .left_up => ["part", "left", "top", "right"]
  | .right_up => ["part", "left", "top", "right"]
  | .turned => ["shape", "key", "left", "top", "right"]
  | .with_leaf => ["shape", "key", "left", "top", "right"]
  | .least => ["shape"]
  | .greatest => ["shape"]
  | .without => ["shape", "key", "new", "left", "top", "right"]
  | .once_up => ["shape", "key"]
  | .to_top => ["shape", "key"]
  | .way_down => ["shape", "key"]
  | .splayed => ["shape", "key", "first", "grand", "parent"]
  | .without_splayed => ["shape", "key", "new", "left", "top", "right"]
  | .weight_of => ["shape"]
  | .set_right => ["word", "part", "left", "top", "right"]
  | .is_greater => ["word", "one", "other"]
  | .is_inner => ["word", "inner", "outer"]
  | .put_right => ["word", "shape", "key", "left", "top", "right"]
  | .take_right => ["word", "shape", "key", "new", "left", "top", "right"]
  | .is_even => ["part"]
  | .built => ["keys", "at"]
  | .rebuilt => ["shape"]
  | .put_rebuilt => ["shape", "key"]
  | .take_rebuilt => ["shape", "key"]
  | .rank_of => ["part"]
  | .ranked => ["shape", "left"]
  | .bare => ["part"]
  | .skew => ["part", "left", "top", "right", "rank"]
  | .split => ["part", "left", "top", "right", "rank"]
  | .put_in => ["part", "key", "left", "top", "right", "rank"]
  | .with_right => ["part", "right"]
  | .set_back => ["part", "due", "left", "top", "right", "rank"]
  | .take_out => ["part", "key", "new", "left", "top", "right", "rank"]
  | .is_rule => ["candidate", "key"]
  | .need_rule => ["value"]
  | .by_order => ["keys", "order", "top", "key"]
  | .with_key => ["rule", "shape", "key"]
  | .without_key => ["rule", "shape", "key", "one"]
  | .moved => ["rule", "shape", "key"]
  | .behind => ["rule", "shape", "deed"]
  | .cost_of => ["shape", "deed"]
  | .is_deed => ["value"]
  | .is_possible => ["shape", "deed"]
  | .need_deed => ["shape", "value"]
  | .cost => ["shape", "deed"]
  | .keys_along => []
  | .is_row => ["candidate", "deed"]
  | .need_row => ["value"]
  | .run => []
  | .need_run => ["rule", "row"]
  | .shapes_along => ["rule", "row"]
  | .costs_along => ["rule", "row"]
  | ._law_keys => ["_law_shape"]
  | ._law_tall => ["_law_shape"]
  | ._law_path => ["_law_shape", "_law_key"]
  | ._law_plant => ["_law_keys_here", "_law_top", "_law_key"]
  | ._law_order => ["_law_shape"]
  | ._law_turn => ["_law_shape", "_law_key", "_law_left", "_law_top", "_law_right"]
  | ._law_leaf => ["_law_shape", "_law_key"]
  | ._law_part => ["_law_shape", "_law_key"]
  | ._law_put => ["_law_shape", "_law_key", "_law_part_here"]
  | ._law_out => ["_law_shape", "_law_key", "_law_above", "_law_new", "_law_own", "_law_left", "_law_top", "_law_right"]
  | ._law_heavy => ["_law_word", "_law_one", "_law_other"]
  | ._law_inner => ["_law_word", "_law_inner_here", "_law_outer"]
  | ._law_fixed => ["_law_word", "_law_shape", "_law_key", "_law_left", "_law_top", "_law_right", "_law_up"]
  | ._law_set => ["_law_word", "_law_shape", "_law_above", "_law_key"]
  | ._law_even => ["_law_keys_here", "_law_half"]
  | ._law_is_even => ["_law_part_here"]
  | ._law_again => ["_law_shape"]
  | ._law_splay => ["_law_shape", "_law_key", "_law_way", "_law_grand", "_law_parent"]
  | ._law_moved => ["_law_name", "_law_shape", "_law_key"]
  | ._law_splay_out => ["_law_shape", "_law_key", "_law_new", "_law_left", "_law_top", "_law_right"]
  | ._law_in => ["_law_rule_here", "_law_shape", "_law_key", "_law_name", "_law_here", "_law_one"]
  | ._law_after => ["_law_rule_here", "_law_shape", "_law_deed_here", "_law_name", "_law_key", "_law_new", "_law_above", "_law_one"]
  | ._law_price => ["_law_shape", "_law_deed_here"]
def fpn : F → Nat
  | .is_number => 3
  | .is_between => 3
  | .is_shape => 1
  | .need_shape => 1
  | .keys_of => 1
  | .size_of => 1
  | .height_of => 1
  | .way_to => 2
  | .left_up => 1
  | .right_up => 1
  | .turned => 2
  | .with_leaf => 2
  | .least => 1
  | .greatest => 1
  | .without => 2
  | .once_up => 2
  | .to_top => 2
  | .way_down => 2
  | .splayed => 2
  | .without_splayed => 2
  | .weight_of => 1
  | .set_right => 2
  | .is_greater => 3
  | .is_inner => 3
  | .put_right => 3
  | .take_right => 3
  | .is_even => 1
  | .built => 1
  | .rebuilt => 1
  | .put_rebuilt => 2
  | .take_rebuilt => 2
  | .rank_of => 1
  | .ranked => 1
  | .bare => 1
  | .skew => 1
  | .split => 1
  | .put_in => 2
  | .with_right => 2
  | .set_back => 1
  | .take_out => 2
  | .is_rule => 1
  | .need_rule => 1
  | .by_order => 2
  | .with_key => 3
  | .without_key => 3
  | .moved => 3
  | .behind => 3
  | .cost_of => 2
  | .is_deed => 1
  | .is_possible => 2
  | .need_deed => 2
  | .cost => 2
  | .keys_along => 1
  | .is_row => 1
  | .need_row => 1
  | .run => 2
  | .need_run => 2
  | .shapes_along => 2
  | .costs_along => 2
  | ._law_keys => 1
  | ._law_tall => 1
  | ._law_path => 2
  | ._law_plant => 1
  | ._law_order => 1
  | ._law_turn => 2
  | ._law_leaf => 2
  | ._law_part => 2
  | ._law_put => 3
  | ._law_out => 2
  | ._law_heavy => 3
  | ._law_inner => 3
  | ._law_fixed => 3
  | ._law_set => 3
  | ._law_even => 1
  | ._law_is_even => 1
  | ._law_again => 1
  | ._law_splay => 2
  | ._law_moved => 3
  | ._law_splay_out => 2
  | ._law_in => 3
  | ._law_after => 3
  | ._law_price => 2
def fix : F → Nat
  | .is_number => 8
  | .is_between => 9
  | .is_shape => 10
  | .need_shape => 11
  | .keys_of => 12
  | .size_of => 13
  | .height_of => 14
  | .way_to => 15
  | .left_up => 17
  | .right_up => 18
  | .turned => 19
  | .with_leaf => 21
  | .least => 22
  | .greatest => 23
  | .without => 24
  | .once_up => 25
  | .to_top => 26
  | .way_down => 27
  | .splayed => 28
  | .without_splayed => 29
  | .weight_of => 31
  | .set_right => 32
  | .is_greater => 33
  | .is_inner => 34
  | .put_right => 35
  | .take_right => 36
  | .is_even => 37
  | .built => 38
  | .rebuilt => 39
  | .put_rebuilt => 40
  | .take_rebuilt => 41
  | .rank_of => 43
  | .ranked => 44
  | .bare => 45
  | .skew => 46
  | .split => 47
  | .put_in => 48
  | .with_right => 49
  | .set_back => 50
  | .take_out => 51
  | .is_rule => 54
  | .need_rule => 55
  | .by_order => 56
  | .with_key => 57
  | .without_key => 58
  | .moved => 59
  | .behind => 60
  | .cost_of => 61
  | .is_deed => 62
  | .is_possible => 63
  | .need_deed => 64
  | .cost => 65
  | .keys_along => 68
  | .is_row => 69
  | .need_row => 70
  | .run => 71
  | .need_run => 72
  | .shapes_along => 73
  | .costs_along => 74
  | ._law_keys => 78
  | ._law_tall => 79
  | ._law_path => 80
  | ._law_plant => 82
  | ._law_order => 83
  | ._law_turn => 84
  | ._law_leaf => 85
  | ._law_part => 86
  | ._law_put => 87
  | ._law_out => 88
  | ._law_heavy => 89
  | ._law_inner => 90
  | ._law_fixed => 91
  | ._law_set => 92
  | ._law_even => 93
  | ._law_is_even => 94
  | ._law_again => 95
  | ._law_splay => 103
  | ._law_moved => 104
  | ._law_splay_out => 105
  | ._law_in => 106
  | ._law_after => 107
  | ._law_price => 108
def fps : F → List Str
  | .is_number => ["value", "least", "most"]
  | .is_between => ["value", "low", "high"]
  | .is_shape => ["candidate"]
  | .need_shape => ["value"]
  | .keys_of => ["shape"]
  | .size_of => ["shape"]
  | .height_of => ["shape"]
  | .way_to => ["shape", "key"]
  | .left_up => ["part"]
  | .right_up => ["part"]
  | .turned => ["shape", "key"]
  | .with_leaf => ["shape", "key"]
  | .least => ["shape"]
  | .greatest => ["shape"]
  | .without => ["shape", "key"]
  | .once_up => ["shape", "key"]
  | .to_top => ["shape", "key"]
  | .way_down => ["shape", "key"]
  | .splayed => ["shape", "key"]
  | .without_splayed => ["shape", "key"]
  | .weight_of => ["shape"]
  | .set_right => ["word", "part"]
  | .is_greater => ["word", "one", "other"]
  | .is_inner => ["word", "inner", "outer"]
  | .put_right => ["word", "shape", "key"]
  | .take_right => ["word", "shape", "key"]
  | .is_even => ["part"]
  | .built => ["keys"]
  | .rebuilt => ["shape"]
  | .put_rebuilt => ["shape", "key"]
  | .take_rebuilt => ["shape", "key"]
  | .rank_of => ["part"]
  | .ranked => ["shape"]
  | .bare => ["part"]
  | .skew => ["part"]
  | .split => ["part"]
  | .put_in => ["part", "key"]
  | .with_right => ["part", "right"]
  | .set_back => ["part"]
  | .take_out => ["part", "key"]
  | .is_rule => ["candidate"]
  | .need_rule => ["value"]
  | .by_order => ["keys", "order"]
  | .with_key => ["rule", "shape", "key"]
  | .without_key => ["rule", "shape", "key"]
  | .moved => ["rule", "shape", "key"]
  | .behind => ["rule", "shape", "deed"]
  | .cost_of => ["shape", "deed"]
  | .is_deed => ["value"]
  | .is_possible => ["shape", "deed"]
  | .need_deed => ["shape", "value"]
  | .cost => ["shape", "deed"]
  | .keys_along => ["row"]
  | .is_row => ["candidate"]
  | .need_row => ["value"]
  | .run => ["rule", "row"]
  | .need_run => ["rule", "row"]
  | .shapes_along => ["rule", "row"]
  | .costs_along => ["rule", "row"]
  | ._law_keys => ["_law_shape"]
  | ._law_tall => ["_law_shape"]
  | ._law_path => ["_law_shape", "_law_key"]
  | ._law_plant => ["_law_keys_here"]
  | ._law_order => ["_law_shape"]
  | ._law_turn => ["_law_shape", "_law_key"]
  | ._law_leaf => ["_law_shape", "_law_key"]
  | ._law_part => ["_law_shape", "_law_key"]
  | ._law_put => ["_law_shape", "_law_key", "_law_part_here"]
  | ._law_out => ["_law_shape", "_law_key"]
  | ._law_heavy => ["_law_word", "_law_one", "_law_other"]
  | ._law_inner => ["_law_word", "_law_inner_here", "_law_outer"]
  | ._law_fixed => ["_law_word", "_law_shape", "_law_key"]
  | ._law_set => ["_law_word", "_law_shape", "_law_above"]
  | ._law_even => ["_law_keys_here"]
  | ._law_is_even => ["_law_part_here"]
  | ._law_again => ["_law_shape"]
  | ._law_splay => ["_law_shape", "_law_key"]
  | ._law_moved => ["_law_name", "_law_shape", "_law_key"]
  | ._law_splay_out => ["_law_shape", "_law_key"]
  | ._law_in => ["_law_rule_here", "_law_shape", "_law_key"]
  | ._law_after => ["_law_rule_here", "_law_shape", "_law_deed_here"]
  | ._law_price => ["_law_shape", "_law_deed_here"]
def fname : F → Str
  | .is_number => "is_number"
  | .is_between => "is_between"
  | .is_shape => "is_shape"
  | .need_shape => "need_shape"
  | .keys_of => "keys_of"
  | .size_of => "size_of"
  | .height_of => "height_of"
  | .way_to => "way_to"
  | .left_up => "left_up"
  | .right_up => "right_up"
  | .turned => "turned"
  | .with_leaf => "with_leaf"
  | .least => "least"
  | .greatest => "greatest"
  | .without => "without"
  | .once_up => "once_up"
  | .to_top => "to_top"
  | .way_down => "way_down"
  | .splayed => "splayed"
  | .without_splayed => "without_splayed"
  | .weight_of => "weight_of"
  | .set_right => "set_right"
  | .is_greater => "is_greater"
  | .is_inner => "is_inner"
  | .put_right => "put_right"
  | .take_right => "take_right"
  | .is_even => "is_even"
  | .built => "built"
  | .rebuilt => "rebuilt"
  | .put_rebuilt => "put_rebuilt"
  | .take_rebuilt => "take_rebuilt"
  | .rank_of => "rank_of"
  | .ranked => "ranked"
  | .bare => "bare"
  | .skew => "skew"
  | .split => "split"
  | .put_in => "put_in"
  | .with_right => "with_right"
  | .set_back => "set_back"
  | .take_out => "take_out"
  | .is_rule => "is_rule"
  | .need_rule => "need_rule"
  | .by_order => "by_order"
  | .with_key => "with_key"
  | .without_key => "without_key"
  | .moved => "moved"
  | .behind => "behind"
  | .cost_of => "cost_of"
  | .is_deed => "is_deed"
  | .is_possible => "is_possible"
  | .need_deed => "need_deed"
  | .cost => "cost"
  | .keys_along => "keys_along"
  | .is_row => "is_row"
  | .need_row => "need_row"
  | .run => "run"
  | .need_run => "need_run"
  | .shapes_along => "shapes_along"
  | .costs_along => "costs_along"
  | ._law_keys => "_law_keys"
  | ._law_tall => "_law_tall"
  | ._law_path => "_law_path"
  | ._law_plant => "_law_plant"
  | ._law_order => "_law_order"
  | ._law_turn => "_law_turn"
  | ._law_leaf => "_law_leaf"
  | ._law_part => "_law_part"
  | ._law_put => "_law_put"
  | ._law_out => "_law_out"
  | ._law_heavy => "_law_heavy"
  | ._law_inner => "_law_inner"
  | ._law_fixed => "_law_fixed"
  | ._law_set => "_law_set"
  | ._law_even => "_law_even"
  | ._law_is_even => "_law_is_even"
  | ._law_again => "_law_again"
  | ._law_splay => "_law_splay"
  | ._law_moved => "_law_moved"
  | ._law_splay_out => "_law_splay_out"
  | ._law_in => "_law_in"
  | ._law_after => "_law_after"
  | ._law_price => "_law_price"


/-! ### the checker -/
inductive EX where
  | e (x : Expr)
  | l (xs : List Expr)
def glB (sc : Scope) (x y : Str) : Bool := decide (x = y) && decide (sc.names.lookup x = some .globalImplicit)
def visB (sc : Scope) (x : Str) : Bool := decide (sc.names.lookup x = some .local) || decide (sc.names.lookup x = some .cell) || decide (sc.names.lookup x = some .free)
def cstB : D → Const → Bool
  | .none, .none => true
  | .bool a, .bool b => a == b
  | .int a, .int b => decide (a = b)
  | .str a, .str b => decide (a = b)
  | _, _ => false
def plainB : Expr → Bool
  | .Name _ _ => true
  | .Constant _ _ _ => true
  | .UnaryOp _ _ _ => true
  | .BinOp _ _ _ _ => true
  | .Call _ _ _ _ => true
  | .Subscript _ _ _ => true
  | _ => false
def noSet : Expr → Bool
  | .Set _ _ _ => false
  | _ => true
def o2 : B2 → Option Operator
  | .add => some .Add
  | .sub => some .Sub
  | .mul => some .Mult
  | .fdiv => some .FloorDiv
  | _ => none
def c2 : B2 → Option CmpOp
  | .eq => some .Eq
  | .ne => some .NotEq
  | .lt => some .Lt
  | .le => some .LtE
  | .gt => some .Gt
  | .ge => some .GtE
  | .inn => some .In
  | .nin => some .NotIn
  | _ => none
def f2 : B2 → Option Str
  | .max => some "max"
  | .min => some "min"
  | _ => none
/-- may it stand as a test -/
def tstB : C → Bool
  | .and a b => tstB a && tstB b
  | .or a b => tstB a && tstB b
  | .not a => tstB a
  | .ite _ _ _ => false
  | .neg _ => false
  | .chain _ _ _ => false
  | .nil => false
  | .cons _ _ => false
  | .tup _ => false
  | .lst _ => false
  | .b2 b _ _ => (c2 b).isSome || decide (b = .ix)
  | .comp _ _ _ _ _ => false
  | .slc _ _ _ => false
  | .rev _ => false
  | .rng _ _ => false
  | .lvl _ _ _ => false
  | .cst _ => false
  | _ => true
def chk (N : List Str) : C → Scope → EX → Bool
  | .var i, sc, ex => (match ex with
    | .e (.Name x _) => decide (N[i]? = some x) && visB sc x && decide (x ≠ "__debug__") && decide (x ≠ "__classdict__")
    | _ => false)
  | .cst d, _, ex => (match ex with
    | .e (.Constant c _ _) => cstB d c
    | _ => false)
  | .glb g, sc, ex => (match ex with
    | .e (.Name x _) => glB sc x (gname g)
    | _ => false)
  | .nil, _, ex => (match ex with
    | .l [] => true
    | _ => false)
  | .cons a t, sc, ex => (match ex with
    | .l (e :: es) => chk N a sc (.e e) && chk N t sc (.l es)
    | _ => false)
  | .tup c, sc, ex => (match ex with
    | .e (.Tuple es _ _) => chk N c sc (.l es)
    | _ => false)
  | .lst c, sc, ex => (match ex with
    | .e (.List es _) => chk N c sc (.l es)
    | _ => false)
  | .call f c, sc, ex => (match ex with
    | .e (.Call (.Name x _) (e :: es) [] _) => glB sc x (fname f) && chk N c sc (.l (e :: es))
    | _ => false)
  | .b1 b a, sc, ex => (match b with
    | .len => (match ex with
      | .e (.Call (.Name x _) [e] [] _) => glB sc x "len" && chk N a sc (.e e)
      | _ => false)
    | .all => (match ex with
      | .e (.Call (.Name x _) [e] [] _) => glB sc x "all" && chk N a sc (.e e)
      | _ => false)
    | .sorted => (match ex with
      | .e (.Call (.Name x _) [e] [] _) => glB sc x "sorted" && chk N a sc (.e e)
      | _ => false)
    | .isi t => (match ex with
      | .e (.Call (.Name x _) [e, .Name y _] [] _) => glB sc x "isinstance" && glB sc y (tyname t) && chk N a sc (.e e)
      | _ => false))
  | .b2 b a c, sc, ex => (match ex with
    | .e (.BinOp x o y _) => decide (o2 b = some o) && chk N a sc (.e x) && chk N c sc (.e y)
    | .e (.Compare x [o] [y] _) => decide (c2 b = some o) && noSet y && chk N a sc (.e x) && chk N c sc (.e y)
    | .e (.Subscript x y _) => decide (b = .ix) && plainB y && chk N a sc (.e x) && chk N c sc (.e y)
    | .e (.Call (.Name f _) [x, y] [] _) => (match f2 b with | some g => glB sc f g | none => false) && chk N a sc (.e x) && chk N c sc (.e y)
    | _ => false)
  | .chain a b c, sc, ex => (match ex with
    | .e (.Compare x [.LtE, .LtE] [y, z] _) => chk N a sc (.e x) && chk N b sc (.e y) && chk N c sc (.e z)
    | _ => false)
  | .neg a, sc, ex => (match ex with
    | .e (.UnaryOp .USub x _) => chk N a sc (.e x)
    | _ => false)
  | .isN a, sc, ex => (match ex with
    | .e (.Compare x [.Is] [.Constant .none _ _] _) => chk N a sc (.e x)
    | _ => false)
  | .notN a, sc, ex => (match ex with
    | .e (.Compare x [.IsNot] [.Constant .none _ _] _) => chk N a sc (.e x)
    | _ => false)
  | .and a b, sc, ex => (match ex with
    | .e (.BoolOp .And (x :: y :: r) pos) => chk N a sc (.e x) && (match r with | [] => chk N b sc (.e y) | z :: s => chk N b sc (.e (.BoolOp .And (y :: z :: s) pos)))
    | _ => false)
  | .or a b, sc, ex => (match ex with
    | .e (.BoolOp .Or (x :: y :: r) pos) => chk N a sc (.e x) && (match r with | [] => chk N b sc (.e y) | z :: s => chk N b sc (.e (.BoolOp .Or (y :: z :: s) pos)))
    | _ => false)
  | .not a, sc, ex => (match ex with
    | .e (.UnaryOp .Not x _) => chk N a sc (.e x)
    | _ => false)
  | .ite c a b, sc, ex => (match ex with
    | .e (.IfExp t x y _) => tstB c && chk N c sc (.e t) && chk N a sc (.e x) && chk N b sc (.e y)
    | _ => false)
  | .slc a lo hi, sc, ex => (match ex with
    | .e (.Subscript x (.Slice l h none _) _) => chk N a sc (.e x) &&
      (if isNil lo then l.isNone else match l with | none => false | some l => chk N lo sc (.e l)) &&
      (if isNil hi then h.isNone else match h with | none => false | some h => chk N hi sc (.e h))
    | _ => false)
  | .rev a, sc, ex => (match ex with
    | .e (.Subscript x (.Slice none none (some (.UnaryOp .USub (.Constant (.int 1) _ _) _)) _) _) => chk N a sc (.e x)
    | _ => false)
  | .rng a b, sc, ex => (match ex with
    | .e (.Call (.Name x _) [.Call (.Name y _) [p, q] [] _] [] _) => glB sc x "list" && glB sc y "range" && chk N a sc (.e p) && chk N b sc (.e q)
    | _ => false)
  | .comp _ i src cond elt, sc, ex => (match ex with
    | .e (.ListComp el [⟨.Name t _, it, ifs, 0⟩] scope _) => decide (N[i]? = some t) && blkC N sc scope [(t, i)] && noSet it && decide ((relS scope sc).names.lookup t = some .local) &&
      chk N src sc (.e it) && chk N elt (relS scope sc) (.e el) && (if isNil cond then ifs.isEmpty else match ifs with | [c] => tstB cond && chk N cond (relS scope sc) (.e c) | _ => false)
    | _ => false)
  | .lvl b a k, sc, ex => (match ex with
    | .e (.Call (.Name x _) [.Call (.Name y _) [.Call (.Name z _) [p] [] _, q] [] _] [] _) => glB sc x "_law_bare" && glB sc y (if b then "_law_level_in" else "_law_level_out") && glB sc z "_law_ranked" && chk N a sc (.e p) && chk N k sc (.e q)
    | _ => false)
def noComp : Expr → Bool
  | .ListComp _ _ _ _ => false
  | .SetComp _ _ _ _ => false
  | .DictComp _ _ _ _ _ => false
  | _ => true
def locB (sc : Scope) (x : Str) : Bool := decide (sc.names.lookup x = some .local) || decide (sc.names.lookup x = some .cell)
def chkTs (N : List Str) (sc : Scope) : List Nat → List Expr → Bool
  | [], [] => true
  | i :: is, .Name x _ :: es => decide (N[i]? = some x) && locB sc x && chkTs N sc is es
  | _, _ => false
/-- no swapped stores: the value is no written tuple, or some target is no local -/
def noSwap (sc : Scope) (ts : List Expr) : Expr → Bool
  | .Tuple _ _ _ => ts.any fun t => match t with | .Name x _ => decide (sc.names.lookup x ≠ some .local) | _ => false
  | _ => true
def noStarB : Expr → Bool
  | .Starred _ _ => false
  | _ => true
def chkS (N : List Str) (sc : Scope) : S → List Stmt → Bool
  | .nil, ss => ss.isEmpty
  | .set i e k, ss => (match ss with
    | .Assign [.Name x _] v _ :: r => decide (N[i]? = some x) && locB sc x && noComp v && chk N e sc (.e v) && chkS N sc k r
    | _ => false)
  | .unp _ is e k, ss => (match ss with
    | .Assign [.Tuple ts _ _] v _ :: r => chkTs N sc is ts && noComp v && noSwap sc ts v && chk N e sc (.e v) && chkS N sc k r
    | _ => false)
  | .par i j e k, ss => (match ss with
    | .Assign [.Tuple [.Name x px, .Name y py] _ _] (.Tuple [a, b] _ _) _ :: r => decide (N[i]? = some x) && decide (N[j]? = some y) && decide (i ≠ j) && decide (x ≠ y) && decide (px.line = py.line) && decide (sc.names.lookup x = some .local) && decide (sc.names.lookup y = some .local) &&
      noStarB a && noStarB b && !([a, b].all (foldedForSure 8)) && !([a, b].all (constantsAlone 8)) && chk N e sc (.l [a, b]) && chkS N sc k r
    | _ => false)
  | .ret e _, ss => (match ss with
    | .Return (some v) _ :: _ => chk N e sc (.e v)
    | _ => false)
  | .ifs c a b k, ss => (match ss with
    | .If t x y _ :: r => tstB c && chk N c sc (.e t) && chkS N sc a x && chkS N sc b y && chkS N sc k r
    | _ => false)
  | .whl c b k, ss => (match ss with
    | .While t x [] _ :: r => tstB c && chk N c sc (.e t) && chkS N sc b x && chkS N sc k r
    | _ => false)
  | .forl i e b k, ss => (match ss with
    | .For (.Name x _) v y [] _ :: r => decide (N[i]? = some x) && locB sc x && noSet v && chk N e sc (.e v) && chkS N sc b y && chkS N sc k r
    | _ => false)
  | .drop e k, ss => (match ss with
    | .Expr v _ :: r => noComp v && chk N e sc (.e v) && chkS N sc k r
    | _ => false)
  | .nev _, ss => (match ss with
    | .Raise _ _ _ :: _ => true
    | _ => false)
theorem insI_perm (x : Int) : ∀ l : List Int, (insI x l).Perm (x :: l)
  | [] => List.Perm.refl _
  | y :: r => by
    unfold insI
    split
    · exact List.Perm.refl _
    · exact ((insI_perm x r).cons y).trans (List.Perm.swap x y r)
theorem isort_perm : ∀ l : List Int, (isort l).Perm l
  | [] => List.Perm.refl _
  | x :: r => (insI_perm x _).trans ((isort_perm r).cons x)
theorem insI_sorted {x : Int} : ∀ {l : List Int}, l.Pairwise (· ≤ ·) → (insI x l).Pairwise (· ≤ ·)
  | [], _ => by unfold insI; simp
  | y :: r, h => by
    unfold insI
    rw [List.pairwise_cons] at h
    split
    · rename_i c
      refine List.pairwise_cons.mpr ⟨fun z hz => ?_, List.pairwise_cons.mpr h⟩
      rcases List.mem_cons.mp hz with e | hz
      · rw [e]; exact c
      · exact Int.le_trans c (h.1 z hz)
    · rename_i c
      refine List.pairwise_cons.mpr ⟨fun z hz => ?_, insI_sorted h.2⟩
      rcases List.mem_cons.mp ((insI_perm x r).mem_iff.mp hz) with e | hz
      · rw [e]; omega
      · exact h.1 z hz
theorem isort_sorted : ∀ l : List Int, (isort l).Pairwise (· ≤ ·)
  | [] => List.Pairwise.nil
  | _ :: r => insI_sorted (isort_sorted r)
theorem isort_eq {ms ns : List Int} (h : ms.Perm ns) (s : ms.Pairwise (· ≤ ·)) : ms = isort ns :=
  List.Perm.eq_of_pairwise (fun _ _ _ _ a b => Int.le_antisymm a b) s (isort_sorted ns) (h.trans (isort_perm ns).symm)
end TT
set_option Elab.async false
set_option maxRecDepth 100000
set_option maxHeartbeats 4000000
namespace TT
open PySem PySem.Spec PyProof.Rows L2
def topS (i : Nat) : Stmt := PySem.Challenge.pw_turnedtrees_k14_whole_rows.main.body.getD i (.Pass ⟨0, 0, 0, 0⟩)
def semC : F → Bool
  | .keys_along => true
  | .run => true
  | _ => false
def allF : List F := [.is_number, .is_between, .is_shape, .need_shape, .keys_of, .size_of, .height_of, .way_to, .left_up, .right_up, .turned, .with_leaf, .least, .greatest, .without, .once_up, .to_top, .way_down, .splayed, .without_splayed, .weight_of, .set_right, .is_greater, .is_inner, .put_right, .take_right, .is_even, .built, .rebuilt, .put_rebuilt, .take_rebuilt, .rank_of, .ranked, .bare, .skew, .split, .put_in, .with_right, .set_back, .take_out, .is_rule, .need_rule, .by_order, .with_key, .without_key, .moved, .behind, .cost_of, .is_deed, .is_possible, .need_deed, .cost, .keys_along, .is_row, .need_row, .run, .need_run, .shapes_along, .costs_along, ._law_keys, ._law_tall, ._law_path, ._law_plant, ._law_order, ._law_turn, ._law_leaf, ._law_part, ._law_put, ._law_out, ._law_heavy, ._law_inner, ._law_fixed, ._law_set, ._law_even, ._law_is_even, ._law_again, ._law_splay, ._law_moved, ._law_splay_out, ._law_in, ._law_after, ._law_price]
def good (f : F) : Bool := semC f || chkS (nms f) (defScope (topS (fix f))) (code f) (defBody (topS (fix f)))
theorem g_is_number : good .is_number = true := by decide +kernel
theorem g_is_between : good .is_between = true := by decide +kernel
theorem g_is_shape : good .is_shape = true := by decide +kernel
theorem g_need_shape : good .need_shape = true := by decide +kernel
theorem g_keys_of : good .keys_of = true := by decide +kernel
theorem g_size_of : good .size_of = true := by decide +kernel
theorem g_height_of : good .height_of = true := by decide +kernel
theorem g_way_to : good .way_to = true := by decide +kernel
theorem g_left_up : good .left_up = true := by decide +kernel
theorem g_right_up : good .right_up = true := by decide +kernel
theorem g_turned : good .turned = true := by decide +kernel
theorem g_with_leaf : good .with_leaf = true := by decide +kernel
theorem g_least : good .least = true := by decide +kernel
theorem g_greatest : good .greatest = true := by decide +kernel
theorem g_without : good .without = true := by decide +kernel
theorem g_once_up : good .once_up = true := by decide +kernel
theorem g_to_top : good .to_top = true := by decide +kernel
theorem g_way_down : good .way_down = true := by decide +kernel
theorem g_splayed : good .splayed = true := by decide +kernel
theorem g_without_splayed : good .without_splayed = true := by decide +kernel
theorem g_weight_of : good .weight_of = true := by decide +kernel
theorem g_set_right : good .set_right = true := by decide +kernel
theorem g_is_greater : good .is_greater = true := by decide +kernel
theorem g_is_inner : good .is_inner = true := by decide +kernel
theorem g_put_right : good .put_right = true := by decide +kernel
theorem g_take_right : good .take_right = true := by decide +kernel
theorem g_is_even : good .is_even = true := by decide +kernel
theorem g_built : good .built = true := by decide +kernel
theorem g_rebuilt : good .rebuilt = true := by decide +kernel
theorem g_put_rebuilt : good .put_rebuilt = true := by decide +kernel
theorem g_take_rebuilt : good .take_rebuilt = true := by decide +kernel
theorem g_rank_of : good .rank_of = true := by decide +kernel
theorem g_ranked : good .ranked = true := by decide +kernel
theorem g_bare : good .bare = true := by decide +kernel
theorem g_skew : good .skew = true := by decide +kernel
theorem g_split : good .split = true := by decide +kernel
theorem g_put_in : good .put_in = true := by decide +kernel
theorem g_with_right : good .with_right = true := by decide +kernel
theorem g_set_back : good .set_back = true := by decide +kernel
theorem g_take_out : good .take_out = true := by decide +kernel
theorem g_is_rule : good .is_rule = true := by decide +kernel
theorem g_need_rule : good .need_rule = true := by decide +kernel
theorem g_by_order : good .by_order = true := by decide +kernel
theorem g_with_key : good .with_key = true := by decide +kernel
theorem g_without_key : good .without_key = true := by decide +kernel
theorem g_moved : good .moved = true := by decide +kernel
theorem g_behind : good .behind = true := by decide +kernel
theorem g_cost_of : good .cost_of = true := by decide +kernel
theorem g_is_deed : good .is_deed = true := by decide +kernel
theorem g_is_possible : good .is_possible = true := by decide +kernel
theorem g_need_deed : good .need_deed = true := by decide +kernel
theorem g_cost : good .cost = true := by decide +kernel
theorem g_keys_along : good .keys_along = true := by decide +kernel
theorem g_is_row : good .is_row = true := by decide +kernel
theorem g_need_row : good .need_row = true := by decide +kernel
theorem g_run : good .run = true := by decide +kernel
theorem g_need_run : good .need_run = true := by decide +kernel
theorem g_shapes_along : good .shapes_along = true := by decide +kernel
theorem g_costs_along : good .costs_along = true := by decide +kernel
theorem g__law_keys : good ._law_keys = true := by decide +kernel
theorem g__law_tall : good ._law_tall = true := by decide +kernel
theorem g__law_path : good ._law_path = true := by decide +kernel
theorem g__law_plant : good ._law_plant = true := by decide +kernel
theorem g__law_order : good ._law_order = true := by decide +kernel
theorem g__law_turn : good ._law_turn = true := by decide +kernel
theorem g__law_leaf : good ._law_leaf = true := by decide +kernel
theorem g__law_part : good ._law_part = true := by decide +kernel
theorem g__law_put : good ._law_put = true := by decide +kernel
theorem g__law_out : good ._law_out = true := by decide +kernel
theorem g__law_heavy : good ._law_heavy = true := by decide +kernel
theorem g__law_inner : good ._law_inner = true := by decide +kernel
theorem g__law_fixed : good ._law_fixed = true := by decide +kernel
theorem g__law_set : good ._law_set = true := by decide +kernel
theorem g__law_even : good ._law_even = true := by decide +kernel
theorem g__law_is_even : good ._law_is_even = true := by decide +kernel
theorem g__law_again : good ._law_again = true := by decide +kernel
theorem g__law_splay : good ._law_splay = true := by decide +kernel
theorem g__law_moved : good ._law_moved = true := by decide +kernel
theorem g__law_splay_out : good ._law_splay_out = true := by decide +kernel
theorem g__law_in : good ._law_in = true := by decide +kernel
theorem g__law_after : good ._law_after = true := by decide +kernel
theorem g__law_price : good ._law_price = true := by decide +kernel
end TT
set_option Elab.async false
set_option linter.all false
set_option maxRecDepth 100000
set_option maxHeartbeats 4000000
/-! Values as data over the abstract heap. -/
namespace TT
open PySem PySem.Spec PyProof.Rows L2
mutual
inductive Rp (K : PySem.W.Frag) (H : Hp) : V → D → Prop
  | non : Rp K H .non .none
  | bl (b : Bool) : Rp K H (.bl b) (.bool b)
  | int (i : Int) : Rp K H (.int i) (.int i)
  | str (x : Str) : Rp K H (.str x) (.str x)
  | lst {a : Addr} {xs : List V} {ds : List D} : H a = some (.lst xs) → RpA K H xs ds → Rp K H (.ref a) (.list ds)
  | tup {a : Addr} {xs : List V} {ds : List D} : SqT K H a xs → RpA K H xs ds → Rp K H (.ref a) (.tuple ds)
inductive RpA (K : PySem.W.Frag) (H : Hp) : List V → List D → Prop
  | nil : RpA K H [] []
  | cons {v : V} {vs : List V} {d : D} {ds : List D} : Rp K H v d → RpA K H vs ds → RpA K H (v :: vs) (d :: ds)
end
theorem sqT_mono {K : PySem.W.Frag} {H H' : Hp} {a : Addr} {xs : List V} (e : Same H H') (h : SqT K H a xs) : SqT K H' a xs := by
  rcases h with (h | ⟨o, h⟩) | h
  · exact .inl (.inl (e _ _ h))
  · exact .inl (.inr ⟨o, e _ _ h⟩)
  · exact .inr h
mutual
theorem Rp.mono {K : PySem.W.Frag} {H H' : Hp} (e : Same H H') : ∀ {v : V} {d : D}, Rp K H v d → Rp K H' v d
  | _, _, .non => .non
  | _, _, .bl b => .bl b
  | _, _, .int i => .int i
  | _, _, .str x => .str x
  | _, _, .lst h r => .lst (e _ _ h) (RpA.mono e r)
  | _, _, .tup h r => .tup (sqT_mono e h) (RpA.mono e r)
theorem RpA.mono {K : PySem.W.Frag} {H H' : Hp} (e : Same H H') : ∀ {vs : List V} {ds : List D}, RpA K H vs ds → RpA K H' vs ds
  | _, _, .nil => .nil
  | _, _, .cons h r => .cons (Rp.mono e h) (RpA.mono e r)
end
mutual
theorem Rp.dp {K : PySem.W.Frag} {H : Hp} : ∀ {v : V} {d : D}, Rp K H v d → Dp K H v d
  | _, _, .non => .non
  | _, _, .bl b => .bl b
  | _, _, .int i => .int i
  | _, _, .str x => .str x
  | _, _, .lst h r => .lst (SqL.of h) (RpA.dp r)
  | _, _, .tup h r => .tup h (RpA.dp r)
theorem RpA.dp {K : PySem.W.Frag} {H : Hp} : ∀ {vs : List V} {ds : List D}, RpA K H vs ds → DpAll K H vs ds
  | _, _, .nil => .nil
  | _, _, .cons h r => .cons (Rp.dp h) (RpA.dp r)
end
mutual
theorem Rp.plain {K : PySem.W.Frag} {H : Hp} : ∀ {v : V} {d : D}, Rp K H v d → d.plain = true
  | _, _, .non => rfl
  | _, _, .bl b => rfl
  | _, _, .int i => rfl
  | _, _, .str x => rfl
  | _, _, .lst h r => by rw [PyData.plain]; exact RpA.plain r
  | _, _, .tup h r => by rw [PyData.plain]; exact RpA.plain r
theorem RpA.plain {K : PySem.W.Frag} {H : Hp} : ∀ {vs : List V} {ds : List D}, RpA K H vs ds → PyData.plainAll ds = true
  | _, _, .nil => rfl
  | _, _, .cons h r => by rw [PyData.plainAll, Rp.plain h, RpA.plain r]; rfl
end
theorem RpA.length {K : PySem.W.Frag} {H : Hp} : ∀ {vs : List V} {ds : List D}, RpA K H vs ds → vs.length = ds.length
  | _, _, .nil => rfl
  | _, _, .cons _ r => congrArg (· + 1) (RpA.length r)
theorem RpA.append {K : PySem.W.Frag} {H : Hp} : ∀ {vs ws : List V} {ds es : List D}, RpA K H vs ds → RpA K H ws es → RpA K H (vs ++ ws) (ds ++ es)
  | _, _, _, _, .nil, s => s
  | _, _, _, _, .cons h r, s => .cons h (RpA.append r s)
theorem RpA.take {K : PySem.W.Frag} {H : Hp} : ∀ {vs : List V} {ds : List D} (n : Nat), RpA K H vs ds → RpA K H (vs.take n) (ds.take n)
  | _, _, 0, _ => .nil
  | _, _, _ + 1, .nil => .nil
  | _, _, n + 1, .cons h r => .cons h (RpA.take n r)
theorem RpA.drop {K : PySem.W.Frag} {H : Hp} : ∀ {vs : List V} {ds : List D} (n : Nat), RpA K H vs ds → RpA K H (vs.drop n) (ds.drop n)
  | _, _, 0, r => r
  | _, _, _ + 1, .nil => .nil
  | _, _, n + 1, .cons _ r => RpA.drop n r
theorem RpA.reverse {K : PySem.W.Frag} {H : Hp} : ∀ {vs : List V} {ds : List D}, RpA K H vs ds → RpA K H vs.reverse ds.reverse
  | _, _, .nil => .nil
  | _, _, .cons h r => by rw [List.reverse_cons, List.reverse_cons]; exact (RpA.reverse r).append (.cons h .nil)
theorem RpA.get {K : PySem.W.Frag} {H : Hp} : ∀ {vs : List V} {ds : List D} {i : Nat} {d : D}, RpA K H vs ds → ds[i]? = some d → ∃ v, vs[i]? = some v ∧ Rp K H v d
  | _, _, _, _, .nil, e => by simp at e
  | _, _, 0, d, .cons (v := v) h r, e => by simp at e; subst e; exact ⟨v, rfl, h⟩
  | _, _, i + 1, d, .cons h r, e => by
    obtain ⟨v, h1, h2⟩ := RpA.get (i := i) (d := d) r (by simpa using e)
    exact ⟨v, by simpa using h1, h2⟩
theorem RpA.getV {K : PySem.W.Frag} {H : Hp} : ∀ {vs : List V} {ds : List D} {i : Nat} {v : V}, RpA K H vs ds → vs[i]? = some v → ∃ d, ds[i]? = some d ∧ Rp K H v d
  | _, _, _, _, .nil, e => by simp at e
  | _, _, 0, _, .cons (d := d) h r, e => by simp at e; subst e; exact ⟨d, rfl, h⟩
  | _, _, i + 1, v, .cons h r, e => by
    obtain ⟨d, h1, h2⟩ := RpA.getV (i := i) (v := v) r (by simpa using e)
    exact ⟨d, by simpa using h1, h2⟩
/-- flat data is one value over any heap -/
def vOf : D → V
  | .bool b => .bl b
  | .int i => .int i
  | .str x => .str x
  | _ => .non
theorem Rp.flat {K : PySem.W.Frag} {H : Hp} {v : V} {d : D} (h : Rp K H v d) (f : flatD d = true) : v = vOf d ∧ flatV v = true := by
  cases h <;> first | exact ⟨rfl, rfl⟩ | exact nomatch f
theorem rp_of {K : PySem.W.Frag} {H : Hp} {d : D} (f : flatD d = true) : Rp K H (vOf d) d := by
  cases d <;> first | exact .non | exact .bl _ | exact .int _ | exact .str _ | exact nomatch f
theorem RpA.flat {K : PySem.W.Frag} {H : Hp} : ∀ {vs : List V} {ds : List D}, RpA K H vs ds → ds.all flatD = true → vs = ds.map vOf ∧ vs.all flatV = true
  | _, _, .nil, _ => ⟨rfl, rfl⟩
  | _, _, .cons h r, f => by
    rw [List.all_cons, Bool.and_eq_true] at f
    obtain ⟨e, g⟩ := h.flat f.1
    obtain ⟨e2, g2⟩ := RpA.flat r f.2
    exact ⟨by rw [e, e2]; rfl, by rw [List.all_cons, g, g2]; rfl⟩
theorem rpA_of {K : PySem.W.Frag} {H : Hp} : ∀ {ds : List D}, ds.all flatD = true → RpA K H (ds.map vOf) ds
  | [], _ => .nil
  | d :: ds, f => by
    rw [List.all_cons, Bool.and_eq_true] at f
    exact .cons (rp_of f.1) (rpA_of f.2)
theorem eqV_of {x y : D} (fx : flatD x = true) (fy : flatD y = true) : eqV (vOf x) (vOf y) = PyData.eqv x y := by
  cases x <;> first | (cases y <;> first | (simp [vOf, eqV, PyData.eqv]; done) | (simp [flatD] at fy; done)) | (simp [flatD] at fx; done)
theorem inV_of {x : D} {ds : List D} (fx : flatD x = true) (fs : ds.all flatD = true) : inV (vOf x) (ds.map vOf) = inD x ds := by
  unfold inV inD
  rw [List.any_map]
  induction ds with
  | nil => rfl
  | cons d r ih =>
    rw [List.all_cons, Bool.and_eq_true] at fs
    rw [List.any_cons, List.any_cons, ih fs.2]
    show (eqV (vOf d) (vOf x) || _) = _
    rw [eqV_of fs.1 fx]
theorem Rp.intI {K : PySem.W.Frag} {H : Hp} {v : V} {i : Int} (h : Rp K H v (.int i)) : v = .int i := by cases h; rfl
theorem Rp.blI {K : PySem.W.Frag} {H : Hp} {v : V} {b : Bool} (h : Rp K H v (.bool b)) : v = .bl b := by cases h; rfl
theorem Rp.strI {K : PySem.W.Frag} {H : Hp} {v : V} {b : Str} (h : Rp K H v (.str b)) : v = .str b := by cases h; rfl
theorem Rp.lstI {K : PySem.W.Frag} {H : Hp} {v : V} {ds : List D} (h : Rp K H v (.list ds)) : ∃ a xs, v = .ref a ∧ H a = some (.lst xs) ∧ RpA K H xs ds := by cases h with | lst h r => exact ⟨_, _, rfl, h, r⟩
theorem Rp.tupI {K : PySem.W.Frag} {H : Hp} {v : V} {ds : List D} (h : Rp K H v (.tuple ds)) : ∃ a xs, v = .ref a ∧ SqT K H a xs ∧ RpA K H xs ds := by cases h with | tup h r => exact ⟨_, _, rfl, h, r⟩

theorem same_upd {H : Hp} {p : Addr} {o : HO} (h : H p = none) : Same H (upd H p o) := fun b x e => by rw [upd_ne (ne_of_none e h)]; exact e

/-! ### the names' values -/
structure EnvR (K : PySem.W.Frag) (H : Hp) (σ : L2.St) (ρ : Rho) : Prop where
  len : ρ.length = σ.length
  at_ : ∀ i d, getE ρ i = some d → ∃ v, σ[i]? = some (some v) ∧ Rp K H v d
theorem EnvR.mono {K : PySem.W.Frag} {H H' : Hp} {σ : L2.St} {ρ : Rho} (e : Same H H') (h : EnvR K H σ ρ) : EnvR K H' σ ρ := ⟨h.len, fun i d q => by
  obtain ⟨v, a, b⟩ := h.at_ i d q
  exact ⟨v, a, b.mono e⟩⟩
theorem getE_none : ∀ {ρ : Rho} {i : Nat}, ρ.length ≤ i → getE ρ i = none
  | [], _, _ => rfl
  | _ :: _, 0, h => by simp at h
  | _ :: r, i + 1, h => getE_none (ρ := r) (i := i) (by simpa using h)
theorem setE_length : ∀ (ρ : Rho) (i : Nat) (d : D), (setE ρ i d).length = ρ.length
  | [], _, _ => rfl
  | _ :: _, 0, _ => rfl
  | _ :: r, i + 1, d => congrArg (· + 1) (setE_length r i d)
theorem getE_set_same : ∀ {ρ : Rho} {i : Nat} {d : D}, i < ρ.length → getE (setE ρ i d) i = some d
  | [], _, _, h => by simp at h
  | _ :: _, 0, _, _ => rfl
  | _ :: r, i + 1, d, h => getE_set_same (ρ := r) (i := i) (by simpa using h)
theorem getE_set_ne : ∀ {ρ : Rho} {i j : Nat} {d : D}, i ≠ j → getE (setE ρ i d) j = getE ρ j
  | [], _, _, _, _ => rfl
  | _ :: _, 0, 0, _, h => absurd rfl h
  | _ :: _, 0, j + 1, _, _ => rfl
  | _ :: _, i + 1, 0, _, _ => rfl
  | _ :: r, i + 1, j + 1, d, h => getE_set_ne (ρ := r) (i := i) (j := j) fun e => h (by rw [e])
theorem EnvR.set {K : PySem.W.Frag} {H : Hp} {σ : L2.St} {ρ : Rho} {i : Nat} {v : V} {d : D} (h : EnvR K H σ ρ) (r : Rp K H v d) : EnvR K H (σ.set i (some v)) (setE ρ i d) := ⟨by rw [setE_length, List.length_set, h.len], fun j e q => by
  by_cases hj : i = j
  · subst hj
    by_cases hi : i < ρ.length
    · rw [getE_set_same hi] at q
      cases q
      exact ⟨v, List.getElem?_set_self (by rw [← h.len]; exact hi), r⟩
    · rw [getE_none (by rw [setE_length]; omega)] at q
      cases q
  · rw [getE_set_ne hj] at q
    obtain ⟨u, a, b⟩ := h.at_ j e q
    exact ⟨u, by rw [List.getElem?_set_ne hj]; exact a, b⟩⟩
/-- a slot forgotten and filled anew -/
theorem EnvR.setW {K : PySem.W.Frag} {H : Hp} {σ : L2.St} {ρ : Rho} {i : Nat} {v : V} {d : D} (h : EnvR K H σ ρ) (r : Rp K H v d) : EnvR K H ((wipe σ [i]).set i (some v)) (setE ρ i d) := by
  have e : (wipe σ [i]).set i (some v) = σ.set i (some v) := by
    show (σ.set i none).set i (some v) = _
    rw [List.set_set]
  rw [e]
  exact h.set r
theorem wipe_set (σ : L2.St) (i : Nat) (v : V) : wipe ((wipe σ [i]).set i (some v)) [i] = wipe σ [i] := by
  show ((σ.set i none).set i (some v)).set i none = σ.set i none
  rw [List.set_set, List.set_set]
end TT
set_option Elab.async false
set_option linter.all false
set_option maxRecDepth 100000
set_option maxHeartbeats 4000000
/-! The readings of pure expressions by data. -/
namespace TT
open PySem PySem.Spec PyProof.Rows L2
abbrev QOk (K : PySem.W.Frag) (H : Hp) (d : D) (Q : VK) : Prop := ∀ v H', Same H H' → Rp K H' v d → Q v H'
def DE (X : Cx) (e : Expr) (f : Rho → Option D) : Prop := ∃ t : TE, PE X e t ∧ ∀ (σ : L2.St) (H : Hp) (ρ : Rho) (d : D) (Q : VK), EnvR X.K H σ ρ → f ρ = some d → QOk X.K H d Q → t σ H Q
def DT (X : Cx) (e : Expr) (f : Rho → Option Bool) : Prop := ∃ t : TT, PT X e t ∧ ∀ (σ : L2.St) (H : Hp) (ρ : Rho) (b : Bool) (Q : Bool → Hp → Prop), EnvR X.K H σ ρ → f ρ = some b → (∀ H', Same H H' → Q b H') → t σ H Q
def DA (X : Cx) (es : List Expr) (f : Rho → Option (List D)) : Prop := ∃ t : TA, PA X es t ∧ ∀ (σ : L2.St) (H : Hp) (ρ : Rho) (ds : List D) (Q : List V → Hp → Prop), EnvR X.K H σ ρ → f ρ = some ds → (∀ vs H', Same H H' → RpA X.K H' vs ds → Q vs H') → t σ H Q
/-- two values in, one out, by a rule -/
def Op2D (X : Cx) (f : Value → Value → Sem Value) (g : D → D → Option D) : Prop := ∃ r : R2, OpR X f r ∧ ∀ (x y : V) (a b d : D) (H : Hp) (Q : VK), Rp X.K H x a → Rp X.K H y b → g a b = some d → QOk X.K H d Q → r x y H Q
theorem bind_some {α β : Type} {a : Option α} {f : α → Option β} {b : β} (h : a.bind f = some b) : ∃ x, a = some x ∧ f x = some b := Option.bind_eq_some_iff.mp h
section
variable {X : Cx}
theorem de_bin {a b : Expr} {fa fb : Rho → Option D} {g : D → D → Option D} {r : R2} (ha : DE X a fa) (hb : DE X b fb) {e : Expr}
    (mk : ∀ ta tb, PE X a ta → PE X b tb → PE X e (tOp r ta tb))
    (hr : ∀ (x y : V) (a b d : D) (H : Hp) (Q : VK), Rp X.K H x a → Rp X.K H y b → g a b = some d → QOk X.K H d Q → r x y H Q) :
    DE X e (fun ρ => (fa ρ).bind fun x => (fb ρ).bind fun y => g x y) := by
  obtain ⟨ta, pa, qa⟩ := ha
  obtain ⟨tb, pb, qb⟩ := hb
  refine ⟨_, mk ta tb pa pb, fun σ H ρ d Q E h q => ?_⟩
  obtain ⟨x, hx, h⟩ := bind_some h
  obtain ⟨y, hy, h⟩ := bind_some h
  refine qa σ H ρ x _ E hx fun v1 H1 s1 r1 => ?_
  refine qb σ H1 ρ y _ (E.mono s1) hy fun v2 H2 s2 r2 => ?_
  exact hr v1 v2 x y d H2 Q (r1.mono s2) r2 h fun v H' s' r' => q v H' (s1.trans (s2.trans s')) r'
theorem dt_bin {a b : Expr} {fa fb : Rho → Option D} {g : D → D → Option D} {r : R2} (ha : DE X a fa) (hb : DE X b fb) {e : Expr}
    (mk : ∀ ta tb, PE X a ta → PE X b tb → PT X e (tTest (tOp r ta tb)))
    (hr : ∀ (x y : V) (a b d : D) (H : Hp) (Q : VK), Rp X.K H x a → Rp X.K H y b → g a b = some d → QOk X.K H d Q → r x y H Q) :
    DT X e (fun ρ => ((fa ρ).bind fun x => (fb ρ).bind fun y => g x y).bind asB) := by
  obtain ⟨ta, pa, qa⟩ := ha
  obtain ⟨tb, pb, qb⟩ := hb
  refine ⟨_, mk ta tb pa pb, fun σ H ρ d Q E h q => ?_⟩
  obtain ⟨z, h, hz⟩ := bind_some h
  obtain ⟨x, hx, h⟩ := bind_some h
  obtain ⟨y, hy, h⟩ := bind_some h
  have ez : z = .bool d := by
    cases z <;> first | (exact congrArg PyData.bool (Option.some.inj hz)) | exact nomatch hz
  subst ez
  show ta σ H _
  refine qa σ H ρ x _ E hx fun v1 H1 s1 r1 => ?_
  refine qb σ H1 ρ y _ (E.mono s1) hy fun v2 H2 s2 r2 => ?_
  refine hr v1 v2 x y _ H2 _ (r1.mono s2) r2 h fun v H' s' r' => ?_
  exact ⟨d, r'.blI, q H' (s1.trans (s2.trans s'))⟩
/-- any expression as a test, by its truth value -/
theorem dt_val {e : Expr} {f : Rho → Option D} (h : DE X e f) (he : ∀ whole, isTrue e X.env whole = (do let v ← whole; standAt e.pos; holding [v] (truthy v))) : DT X e (fun ρ => (f ρ).bind asB) := by
  obtain ⟨t, p, q⟩ := h
  refine ⟨_, pt_val p he, fun σ H ρ b Q E h hq => ?_⟩
  obtain ⟨z, h, hz⟩ := bind_some h
  have ez : z = .bool b := by
    cases z <;> first | (exact congrArg PyData.bool (Option.some.inj hz)) | exact nomatch hz
  subst ez
  exact q σ H ρ _ _ E h fun v H' s r => ⟨b, r.blI, hq H' s⟩
/-! ### names, constants -/
theorem de_var {i : Nat} {x : Str} {pos : Pos} (hN : X.N[i]? = some x) (hv : Vis X.env.scope x) (h1 : x ≠ "__debug__") (h2 : x ≠ "__classdict__") : DE X (.Name x pos) (fun ρ => getE ρ i) :=
  ⟨_, pe_var hN hv (by simpa using h1) (by simpa using h2), fun σ H ρ d Q E h q => by
    obtain ⟨v, e, r⟩ := E.at_ i d h
    exact ⟨v, e, q v H (Same.refl H) r⟩⟩
theorem de_cst {d : D} {c : Const} {k : Nat} {pos : Pos} (h : cstB d c = true) : DE X (.Constant c k pos) (fun _ => some d) := by
  cases d <;> cases c <;> first | (simp [cstB] at h; done) | skip
  · exact ⟨_, pe_non, fun σ H ρ d Q E h q => by cases h; exact q _ H (Same.refl H) .non⟩
  · rename_i a b
    have e : a = b := by simpa [cstB] using h
    subst e
    exact ⟨_, pe_bl, fun σ H ρ d Q E h q => by cases h; exact q _ H (Same.refl H) (.bl _)⟩
  · rename_i a b
    have e : a = b := by simpa [cstB] using h
    subst e
    exact ⟨_, pe_int, fun σ H ρ d Q E h q => by cases h; exact q _ H (Same.refl H) (.int _)⟩
  · rename_i a b
    have e : a = b := by simpa [cstB] using h
    subst e
    exact ⟨_, pe_str, fun σ H ρ d Q E h q => by cases h; exact q _ H (Same.refl H) (.str _)⟩
/-! ### argument lists, displays -/
theorem da_nil : DA X [] (fun _ => some []) := ⟨_, pa_nil, fun σ H ρ ds Q E h q => by cases h; exact q [] H (Same.refl H) .nil⟩
theorem da_cons {e : Expr} {es : List Expr} {f : Rho → Option D} {g : Rho → Option (List D)} (h1 : DE X e f) (h2 : DA X es g) (hs : starEach (e :: es) X.env = (false, eval e X.env) :: starEach es X.env) :
    DA X (e :: es) (fun ρ => (f ρ).bind fun x => (g ρ).bind fun ys => some (x :: ys)) := by
  obtain ⟨t1, p1, q1⟩ := h1
  obtain ⟨t2, p2, q2⟩ := h2
  refine ⟨_, pa_cons p1 p2 hs, fun σ H ρ ds Q E h q => ?_⟩
  obtain ⟨x, hx, h⟩ := bind_some h
  obtain ⟨ys, hy, h⟩ := bind_some h
  cases h
  refine q1 σ H ρ x _ E hx fun v1 H1 s1 r1 => ?_
  refine q2 σ H1 ρ ys _ (E.mono s1) hy fun vs H2 s2 r2 => ?_
  exact q _ H2 (s1.trans s2) (.cons (r1.mono s2) r2)
theorem le1000 {n : Nat} (h : n ≤ 1000) : n ≤ sizeLine := Nat.le_of_lt (small1000 h)
theorem de_tup {es : List Expr} {k : Nat} {pos : Pos} {g : Rho → Option (List D)} (h : DA X es g) : DE X (.Tuple es k pos) (fun ρ => (g ρ).bind fun ys => if ys.length ≤ 1000 then some (.tuple ys) else none) := by
  obtain ⟨t, p, q⟩ := h
  refine ⟨_, pe_tup p, fun σ H ρ d Q E h hq => ?_⟩
  obtain ⟨ys, hy, h⟩ := bind_some h
  split at h
  · rename_i hl
    cases h
    refine q σ H ρ ys _ E hy fun vs H1 s1 r1 => ⟨by rw [r1.length]; exact le1000 hl, fun p np => ?_⟩
    exact hq _ _ (s1.trans (same_upd np)) (.tup (SqT.of upd_same) (r1.mono (same_upd np)))
  · cases h
theorem de_lst {es : List Expr} {pos : Pos} {g : Rho → Option (List D)} (h : DA X es g) : DE X (.List es pos) (fun ρ => (g ρ).bind fun ys => if ys.length ≤ 1000 then some (.list ys) else none) := by
  obtain ⟨t, p, q⟩ := h
  refine ⟨_, pe_lst p, fun σ H ρ d Q E h hq => ?_⟩
  obtain ⟨ys, hy, h⟩ := bind_some h
  split at h
  · rename_i hl
    cases h
    refine q σ H ρ ys _ E hy fun vs H1 s1 r1 => ⟨by rw [r1.length]; exact le1000 hl, fun p np => ?_⟩
    exact hq _ _ (s1.trans (same_upd np)) (.lst upd_same (r1.mono (same_upd np)))
  · cases h
/-! ### operators -/
theorem op_eqP (hu : X.A.units + 64 < cLine) : OpR X (compareOp .Eq) (fun x y H Q => ∃ d e, Rp X.K H x d ∧ Rp X.K H y e ∧ eqOk d e = true ∧ Q (.bl (PyData.eqv d e)) H) := by
  intro pins s σ H x y v u Q I rx ry h
  obtain ⟨d, e, hd, he, ok, q⟩ := h
  obtain ⟨as, r1⟩ := Dp.reads I d x v hd.dp rx
  obtain ⟨bs, r2⟩ := Dp.reads I e y u he.dp ry
  refine SeqAt.eq_plain r1 r2 hd.plain he.plain ?_ ⟨.bl _, H, I, rfl, q⟩
  simp only [eqOk, Bool.or_eq_true, decide_eq_true_eq] at ok
  omega
theorem op_neP (hu : X.A.units + 64 < cLine) : OpR X (compareOp .NotEq) (fun x y H Q => ∃ d e, Rp X.K H x d ∧ Rp X.K H y e ∧ eqOk d e = true ∧ Q (.bl (!PyData.eqv d e)) H) := by
  intro pins s σ H x y v u Q I rx ry h
  obtain ⟨d, e, hd, he, ok, q⟩ := h
  obtain ⟨as, r1⟩ := Dp.reads I d x v hd.dp rx
  obtain ⟨bs, r2⟩ := Dp.reads I e y u he.dp ry
  refine SeqAt.ne_plain r1 r2 hd.plain he.plain ?_ ⟨.bl _, H, I, rfl, q⟩
  simp only [eqOk, Bool.or_eq_true, decide_eq_true_eq] at ok
  omega
theorem o2D {b : B2} {o : Operator} (h : o2 b = some o) : Op2D X (binaryOp o) (op2 b) := by
  cases b <;> first | (simp [o2, c2] at h; done) | cases h
  · refine ⟨_, op_add.or (op_add_ib.or op_cat), fun x y a b d H Q ra rb h q => ?_⟩
    cases ra with
    | int i =>
      cases rb with
      | int j => cases h; exact .inl ⟨i, j, rfl, rfl, q _ H (Same.refl H) (.int _)⟩
      | bl k => cases h; exact .inr (.inl ⟨i, k, rfl, rfl, q _ H (Same.refl H) (.int _)⟩)
      | _ => exact nomatch h
    | lst h1 r1 =>
      cases rb with
      | lst h2 r2 =>
        simp only [op2] at h
        split at h
        · rename_i hl
          cases h
          refine .inr (.inr ⟨_, _, _, _, rfl, rfl, h1, h2, by rw [r1.length, r2.length]; exact le1000 hl, fun p np => ?_⟩)
          exact q _ _ (same_upd np) (.lst upd_same ((r1.append r2).mono (same_upd np)))
        · cases h
      | _ => exact nomatch h
    | _ => exact nomatch h
  · refine ⟨_, op_sub, fun x y a b d H Q ra rb h q => ?_⟩
    cases ra <;> first | (cases h; done) | skip
    cases rb <;> first | (cases h; done) | skip
    cases h
    exact ⟨_, _, rfl, rfl, q _ H (Same.refl H) (.int _)⟩
  · refine ⟨_, op_mul, fun x y a b d H Q ra rb h q => ?_⟩
    cases ra <;> first | (cases h; done) | skip
    cases rb <;> first | (cases h; done) | skip
    simp only [op2] at h
    split at h
    · rename_i i j hl
      cases h
      exact ⟨_, _, rfl, rfl, .inl ⟨by omega, by omega⟩, q _ H (Same.refl H) (.int _)⟩
    · cases h
  · refine ⟨_, op_fdiv, fun x y a b d H Q ra rb h q => ?_⟩
    cases ra <;> first | (cases h; done) | skip
    cases rb <;> first | (cases h; done) | skip
    simp only [op2] at h
    split at h
    · rename_i i j hl
      cases h
      exact ⟨_, _, rfl, rfl, ⟨hl.1, by omega⟩, q _ H (Same.refl H) (.int _)⟩
    · cases h
theorem inn_ok {neg : Bool} {x y : V} {a b d : D} {H : Hp} {Q : VK} (ra : Rp X.K H x a) (rb : Rp X.K H y b) (h : ((seqOf b).bind fun ds => if flatD a && ds.all flatD then some (PyData.bool (if neg then !inD a ds else inD a ds)) else none) = some d)
    (q : QOk X.K H d Q) : rIn X.K neg x y H Q := by
  obtain ⟨ds, hs, h⟩ := bind_some h
  split at h
  · rename_i hf
    rw [Bool.and_eq_true] at hf
    cases h
    obtain ⟨ex, fx⟩ := ra.flat hf.1
    have fin : ∀ xs, RpA X.K H xs ds → inV x xs = inD a ds ∧ xs.all flatV = true := fun xs r => by
      obtain ⟨e, g⟩ := r.flat hf.2
      exact ⟨by rw [ex, e, inV_of hf.1 hf.2], g⟩
    cases rb with
    | lst hb r =>
      cases hs
      obtain ⟨e, g⟩ := fin _ r
      exact ⟨_, _, rfl, .inl (SqL.of hb), fx, g, by rw [e]; exact q _ H (Same.refl H) (.bl _)⟩
    | tup hb r =>
      cases hs
      obtain ⟨e, g⟩ := fin _ r
      exact ⟨_, _, rfl, .inr hb, fx, g, by rw [e]; exact q _ H (Same.refl H) (.bl _)⟩
    | _ => exact nomatch hs
  · cases h
theorem c2D {b : B2} {o : CmpOp} (h : c2 b = some o) (hu : X.A.units + 64 < cLine) : Op2D X (compareOp o) (op2 b) := by
  cases b <;> first | (simp [o2, c2] at h; done) | cases h
  · refine ⟨_, op_eqP hu, fun x y a b d H Q ra rb h q => ?_⟩
    simp only [op2] at h
    split at h
    · cases h
      exact ⟨a, b, ra, rb, by assumption, q _ H (Same.refl H) (.bl _)⟩
    · cases h
  · refine ⟨_, op_neP hu, fun x y a b d H Q ra rb h q => ?_⟩
    simp only [op2] at h
    split at h
    · cases h
      exact ⟨a, b, ra, rb, by assumption, q _ H (Same.refl H) (.bl _)⟩
    · cases h
  · refine ⟨_, op_lt, fun x y a b d H Q ra rb h q => ?_⟩
    cases ra <;> first | (cases h; done) | skip
    cases rb <;> first | (cases h; done) | skip
    cases h
    exact ⟨_, _, rfl, rfl, q _ H (Same.refl H) (.bl _)⟩
  · refine ⟨_, op_le, fun x y a b d H Q ra rb h q => ?_⟩
    cases ra <;> first | (cases h; done) | skip
    cases rb <;> first | (cases h; done) | skip
    cases h
    exact ⟨_, _, rfl, rfl, q _ H (Same.refl H) (.bl _)⟩
  · refine ⟨_, op_gt, fun x y a b d H Q ra rb h q => ?_⟩
    cases ra <;> first | (cases h; done) | skip
    cases rb <;> first | (cases h; done) | skip
    cases h
    exact ⟨_, _, rfl, rfl, q _ H (Same.refl H) (.bl _)⟩
  · refine ⟨_, op_ge, fun x y a b d H Q ra rb h q => ?_⟩
    cases ra <;> first | (cases h; done) | skip
    cases rb <;> first | (cases h; done) | skip
    cases h
    exact ⟨_, _, rfl, rfl, q _ H (Same.refl H) (.bl _)⟩
  · exact ⟨_, op_in_seq, fun x y a b d H Q ra rb h q => inn_ok (neg := false) ra rb h q⟩
  · exact ⟨_, op_notIn_seq, fun x y a b d H Q ra rb h q => inn_ok (neg := true) ra rb h q⟩
theorem atI_rep {K : PySem.W.Frag} {H : Hp} {xs : List V} {ds : List D} {i : Int} {d : D} (r : RpA K H xs ds) (h : atI ds i = some d) : ∃ v, atI xs i = some v ∧ Rp K H v d := by
  unfold atI at h ⊢
  obtain ⟨j, h1, h2⟩ := bind_some h
  obtain ⟨v, h3, h4⟩ := r.get h2
  exact ⟨v, by rw [r.length, h1]; exact h3, h4⟩
theorem de_ix {a b : Expr} {fa fb : Rho → Option D} {pos : Pos} (ha : DE X a fa) (hb : DE X b fb) (hs : PlainIx b) : DE X (.Subscript a b pos) (fun ρ => (fa ρ).bind fun x => (fb ρ).bind fun y => op2 .ix x y) :=
  de_bin ha hb (fun ta tb pa pb => pe_ix (ix_list.or ix_tup) pa pb hs) fun x y a b d H Q ra rb h q => by
    cases rb <;> first | (cases h; done) | skip
    obtain ⟨ds, hs, h⟩ := bind_some h
    cases ra with
    | lst h1 r =>
      cases hs
      obtain ⟨v, h2, h3⟩ := atI_rep r h
      exact .inl ⟨_, _, _, v, rfl, rfl, SqL.of h1, h2, q v H (Same.refl H) h3⟩
    | tup h1 r =>
      cases hs
      obtain ⟨v, h2, h3⟩ := atI_rep r h
      exact .inr ⟨_, _, _, v, rfl, rfl, h1, h2, q v H (Same.refl H) h3⟩
    | _ => exact nomatch hs
/-! ### and, or, not, if -/
theorem dt_not {a : Expr} {f : Rho → Option Bool} {pos : Pos} (h : DT X a f) : DT X (.UnaryOp .Not a pos) (fun ρ => (f ρ).bind fun k => some (!k)) := by
  obtain ⟨t, p, q⟩ := h
  refine ⟨_, pt_not p, fun σ H ρ b Q E h hq => ?_⟩
  obtain ⟨k, h1, h2⟩ := bind_some h
  cases h2
  exact q σ H ρ k _ E h1 fun H' s => hq H' s
theorem de_not {a : Expr} {f : Rho → Option D} {pos : Pos} (h : DE X a f) : DE X (.UnaryOp .Not a pos) (fun ρ => (f ρ).bind fun x => (asB x).bind fun k => some (.bool (!k))) := by
  obtain ⟨t, p, q⟩ := h
  refine ⟨_, pe_not p, fun σ H ρ d Q E h hq => ?_⟩
  obtain ⟨x, h1, h2⟩ := bind_some h
  obtain ⟨k, h3, h4⟩ := bind_some h2
  cases h4
  have ez : x = .bool k := by
    cases x <;> first | (exact congrArg PyData.bool (Option.some.inj h3)) | exact nomatch h3
  subst ez
  exact q σ H ρ _ _ E h1 fun v H' s r => ⟨k, r.blI, hq _ H' s (.bl _)⟩
theorem asB_some {x : D} {k : Bool} (h : asB x = some k) : x = .bool k := by
  cases x <;> first | (exact congrArg PyData.bool (Option.some.inj h)) | exact nomatch h
theorem asI_some {x : D} {k : Int} (h : asI x = some k) : x = .int k := by
  cases x <;> first | (exact congrArg PyData.int (Option.some.inj h)) | exact nomatch h
theorem asL_some {x : D} {k : List D} (h : asL x = some k) : x = .list k := by
  cases x <;> first | (exact congrArg PyData.list (Option.some.inj h)) | exact nomatch h
theorem asT_some {x : D} {k : List D} (h : asT x = some k) : x = .tuple k := by
  cases x <;> first | (exact congrArg PyData.tuple (Option.some.inj h)) | exact nomatch h
theorem de_one {op : BoolOp} {a : Expr} {f : Rho → Option D} {pos : Pos} (h : DE X a f) : DE X (.BoolOp op [a] pos) f := by
  obtain ⟨t, p, q⟩ := h
  exact ⟨t, pe_one p, q⟩
theorem de_and {a b : Expr} {rest : List Expr} {f g : Rho → Option D} {pos : Pos} (h1 : DE X a f) (h2 : DE X (.BoolOp .And (b :: rest) pos) g) :
    DE X (.BoolOp .And (a :: b :: rest) pos) (fun ρ => (f ρ).bind fun x => (asB x).bind fun k => if k then g ρ else some (.bool false)) := by
  obtain ⟨t1, p1, q1⟩ := h1
  obtain ⟨t2, p2, q2⟩ := h2
  refine ⟨_, pe_and p1 p2, fun σ H ρ d Q E h q => ?_⟩
  obtain ⟨x, hx, h⟩ := bind_some h
  obtain ⟨k, hk, h⟩ := bind_some h
  cases asB_some hk
  refine q1 σ H ρ _ _ E hx fun v H1 s1 r1 => ⟨k, r1.blI, ?_⟩
  cases k with
  | true => exact iteT (q2 σ H1 ρ d Q (E.mono s1) h fun v H' s r => q v H' (s1.trans s) r)
  | false => cases h; exact iteF (q _ H1 s1 (.bl _))
theorem de_or {a b : Expr} {rest : List Expr} {f g : Rho → Option D} {pos : Pos} (h1 : DE X a f) (h2 : DE X (.BoolOp .Or (b :: rest) pos) g) :
    DE X (.BoolOp .Or (a :: b :: rest) pos) (fun ρ => (f ρ).bind fun x => (asB x).bind fun k => if k then some (.bool true) else g ρ) := by
  obtain ⟨t1, p1, q1⟩ := h1
  obtain ⟨t2, p2, q2⟩ := h2
  refine ⟨_, pe_or p1 p2, fun σ H ρ d Q E h q => ?_⟩
  obtain ⟨x, hx, h⟩ := bind_some h
  obtain ⟨k, hk, h⟩ := bind_some h
  cases asB_some hk
  refine q1 σ H ρ _ _ E hx fun v H1 s1 r1 => ⟨k, r1.blI, ?_⟩
  cases k with
  | true => cases h; exact iteT (q _ H1 s1 (.bl _))
  | false => exact iteF (q2 σ H1 ρ d Q (E.mono s1) h fun v H' s r => q v H' (s1.trans s) r)
/-- and, or as tests: whatever the whole is -/
def DW (X : Cx) (e : Expr) (f : Rho → Option Bool) : Prop := ∃ t : TT, PW X e t ∧ ∀ (σ : L2.St) (H : Hp) (ρ : Rho) (b : Bool) (Q : Bool → Hp → Prop), EnvR X.K H σ ρ → f ρ = some b → (∀ H', Same H H' → Q b H') → t σ H Q
theorem DW.dt {e : Expr} {f : Rho → Option Bool} (h : DW X e f) : DT X e f := by
  obtain ⟨t, p, q⟩ := h
  exact ⟨t, p.pt, q⟩
theorem dw_and1 {a : Expr} {f : Rho → Option Bool} {pos : Pos} (h : DT X a f) : DW X (.BoolOp .And [a] pos) f := by
  obtain ⟨t, p, q⟩ := h
  exact ⟨_, pw_and1 p, q⟩
theorem dw_or1 {a : Expr} {f : Rho → Option Bool} {pos : Pos} (h : DT X a f) : DW X (.BoolOp .Or [a] pos) f := by
  obtain ⟨t, p, q⟩ := h
  exact ⟨_, pw_or1 p, q⟩
theorem dw_and {a b : Expr} {rest : List Expr} {f g : Rho → Option Bool} {pos : Pos} (h1 : DT X a f) (h2 : DW X (.BoolOp .And (b :: rest) pos) g) :
    DW X (.BoolOp .And (a :: b :: rest) pos) (fun ρ => (f ρ).bind fun k => if k then g ρ else some false) := by
  obtain ⟨t1, p1, q1⟩ := h1
  obtain ⟨t2, p2, q2⟩ := h2
  refine ⟨_, pw_and p1 p2, fun σ H ρ d Q E h q => ?_⟩
  obtain ⟨k, hk, h⟩ := bind_some h
  refine q1 σ H ρ _ _ E hk fun H1 s1 => ?_
  cases k with
  | true => exact iteT (q2 σ H1 ρ d Q (E.mono s1) h fun H' s => q H' (s1.trans s))
  | false => cases h; exact iteF (q H1 s1)
theorem dw_or {a b : Expr} {rest : List Expr} {f g : Rho → Option Bool} {pos : Pos} (h1 : DT X a f) (h2 : DW X (.BoolOp .Or (b :: rest) pos) g) :
    DW X (.BoolOp .Or (a :: b :: rest) pos) (fun ρ => (f ρ).bind fun k => if k then some true else g ρ) := by
  obtain ⟨t1, p1, q1⟩ := h1
  obtain ⟨t2, p2, q2⟩ := h2
  refine ⟨_, pw_or p1 p2, fun σ H ρ d Q E h q => ?_⟩
  obtain ⟨k, hk, h⟩ := bind_some h
  refine q1 σ H ρ _ _ E hk fun H1 s1 => ?_
  cases k with
  | true => cases h; exact iteT (q H1 s1)
  | false => exact iteF (q2 σ H1 ρ d Q (E.mono s1) h fun H' s => q H' (s1.trans s))
theorem de_ite {c a b : Expr} {fc : Rho → Option Bool} {f g : Rho → Option D} {pos : Pos} (hc : DT X c fc) (h1 : DE X a f) (h2 : DE X b g) :
    DE X (.IfExp c a b pos) (fun ρ => (fc ρ).bind fun k => if k then f ρ else g ρ) := by
  obtain ⟨t0, p0, q0⟩ := hc
  obtain ⟨t1, p1, q1⟩ := h1
  obtain ⟨t2, p2, q2⟩ := h2
  refine ⟨_, pe_ifExp p0 p1 p2, fun σ H ρ d Q E h q => ?_⟩
  obtain ⟨k, hk, h⟩ := bind_some h
  refine q0 σ H ρ _ _ E hk fun H1 s1 => ?_
  cases k with
  | true => exact iteT (q1 σ H1 ρ d Q (E.mono s1) h fun v H' s r => q v H' (s1.trans s) r)
  | false => exact iteF (q2 σ H1 ρ d Q (E.mono s1) h fun v H' s r => q v H' (s1.trans s) r)
theorem de_neg {a : Expr} {f : Rho → Option D} {pos : Pos} (h : DE X a f) : DE X (.UnaryOp .USub a pos) (fun ρ => (f ρ).bind fun x => (asI x).bind fun i => some (.int (-i))) := by
  obtain ⟨t, p, q⟩ := h
  refine ⟨_, pe_un un_neg p, fun σ H ρ d Q E h hq => ?_⟩
  obtain ⟨x, h1, h2⟩ := bind_some h
  obtain ⟨k, h3, h4⟩ := bind_some h2
  cases h4
  cases asI_some h3
  exact q σ H ρ _ _ E h1 fun v H' s r => ⟨k, r.intI, hq _ H' s (.int _)⟩
theorem isN_of {H : Hp} {v : V} {d : D} (r : Rp X.K H v d) : decide (v = .non) = PyData.eqv d .none := by
  cases r <;> simp [PyData.eqv]
theorem rN {neg : Bool} {v : V} {d e : D} {H : Hp} {Q : VK} (r : Rp X.K H v d) (h : some (PyData.bool (if neg then !PyData.eqv d .none else PyData.eqv d .none)) = some e) (q : QOk X.K H e Q) : Q (.bl (if neg then !decide (v = .non) else decide (v = .non))) H := by
  cases h
  rw [isN_of r]
  exact q _ H (Same.refl H) (.bl _)
theorem de_un {a e : Expr} {f : Rho → Option D} {g : D → Option D} {r : V → Hp → VK → Prop} (h : DE X a f) (mk : ∀ ta, PE X a ta → PE X e (fun σ H Q => ta σ H fun x H1 => r x H1 Q))
    (hr : ∀ (x : V) (a d : D) (H : Hp) (Q : VK), Rp X.K H x a → g a = some d → QOk X.K H d Q → r x H Q) : DE X e (fun ρ => (f ρ).bind g) := by
  obtain ⟨t, p, q⟩ := h
  refine ⟨_, mk t p, fun σ H ρ d Q E h hq => ?_⟩
  obtain ⟨x, h1, h2⟩ := bind_some h
  refine q σ H ρ x _ E h1 fun v H1 s1 r1 => ?_
  exact hr v x d H1 Q r1 h2 fun v H' s r => hq v H' (s1.trans s) r
theorem dt_un {a e : Expr} {f : Rho → Option D} {g : D → Option D} {r : V → Hp → VK → Prop} (h : DE X a f) (mk : ∀ ta, PE X a ta → PT X e (tTest (fun σ H Q => ta σ H fun x H1 => r x H1 Q)))
    (hr : ∀ (x : V) (a d : D) (H : Hp) (Q : VK), Rp X.K H x a → g a = some d → QOk X.K H d Q → r x H Q) : DT X e (fun ρ => ((f ρ).bind g).bind asB) := by
  obtain ⟨t, p, q⟩ := h
  refine ⟨_, mk t p, fun σ H ρ d Q E h hq => ?_⟩
  obtain ⟨z, h, hz⟩ := bind_some h
  cases asB_some hz
  obtain ⟨x, h1, h2⟩ := bind_some h
  show t σ H _
  refine q σ H ρ x _ E h1 fun v H1 s1 r1 => ?_
  exact hr v x _ H1 _ r1 h2 fun v H' s r => ⟨d, r.blI, hq H' (s1.trans s)⟩
theorem de_isN {a : Expr} {f : Rho → Option D} {j : Nat} {p1 pos : Pos} (h : DE X a f) : DE X (.Compare a [.Is] [.Constant .none j p1] pos) (fun ρ => (f ρ).bind fun x => some (.bool (PyData.eqv x .none))) :=
  de_un (r := fun x H1 Q => (V.non = V.non ∧ Q (.bl (decide (x = .non))) H1)) h (fun ta pa => pe_cmpR op_isN pa pe_non (nomark _)) fun x a d H Q r e q => ⟨rfl, rN (neg := false) r e q⟩
theorem dt_isN {a : Expr} {f : Rho → Option D} {j : Nat} {p1 pos : Pos} (h : DE X a f) : DT X (.Compare a [.Is] [.Constant .none j p1] pos) (fun ρ => ((f ρ).bind fun x => some (.bool (PyData.eqv x .none))).bind asB) :=
  dt_un (r := fun x H1 Q => (V.non = V.non ∧ Q (.bl (decide (x = .non))) H1)) h (fun ta pa => pt_cmpR op_isN pa pe_non (nomark _)) fun x a d H Q r e q => ⟨rfl, rN (neg := false) r e q⟩
theorem de_notN {a : Expr} {f : Rho → Option D} {j : Nat} {p1 pos : Pos} (h : DE X a f) : DE X (.Compare a [.IsNot] [.Constant .none j p1] pos) (fun ρ => (f ρ).bind fun x => some (.bool (!PyData.eqv x .none))) :=
  de_un (r := fun x H1 Q => (V.non = V.non ∧ Q (.bl (!decide (x = .non))) H1)) h (fun ta pa => pe_cmpR op_notN pa pe_non (nomark _)) fun x a d H Q r e q => ⟨rfl, rN (neg := true) r e q⟩
theorem dt_notN {a : Expr} {f : Rho → Option D} {j : Nat} {p1 pos : Pos} (h : DE X a f) : DT X (.Compare a [.IsNot] [.Constant .none j p1] pos) (fun ρ => ((f ρ).bind fun x => some (.bool (!PyData.eqv x .none))).bind asB) :=
  dt_un (r := fun x H1 Q => (V.non = V.non ∧ Q (.bl (!decide (x = .non))) H1)) h (fun ta pa => pt_cmpR op_notN pa pe_non (nomark _)) fun x a d H Q r e q => ⟨rfl, rN (neg := true) r e q⟩
end
end TT
set_option Elab.async false
set_option linter.all false
set_option maxRecDepth 100000
set_option maxHeartbeats 4000000
/-! Calls, slices, comprehensions by data. -/
namespace TT
open PySem PySem.Spec PyProof.Rows L2
/-- what a pure def promises: its value as data, all else as it was -/
def spD (K : PySem.W.Frag) (g : List D → Option D) : Sp := fun vs H Q _ => ∃ ds d, RpA K H vs ds ∧ g ds = some d ∧ QOk K H d Q
structure FOk (X : Cx) (k : Nat) (x : Str) (ps : List Str) (g : List D → Option D) : Prop where
  ex : ∃ (fa : Addr) (fd : FuncData), X.mg x = some (.ref fa) ∧ PySem.W.keepIn X.K (.ref fa) = true ∧ Binds X.K fd ps [] ∧ FnOk X.prog X.w X.K X.mg X.base CX0 k fa fd ps (spD X.K g)
/-- the law's road through the levels: ranked, then in or out, then bare -/
structure LvOk (X : Cx) (k : Nat) (y : Str) (g : D → D → Option D) : Prop where
  ex : ∃ (fr fl fb : Addr) (dr dl db : FuncData) (pr pl pb : List Str) (sr sl sb : Sp),
    (X.mg "_law_ranked" = some (.ref fr) ∧ PySem.W.keepIn X.K (.ref fr) = true ∧ Binds X.K dr pr [] ∧ FnOk X.prog X.w X.K X.mg X.base CX0 k fr dr pr sr) ∧
    (X.mg y = some (.ref fl) ∧ PySem.W.keepIn X.K (.ref fl) = true ∧ Binds X.K dl pl [] ∧ FnOk X.prog X.w X.K X.mg X.base CX0 k fl dl pl sl) ∧
    (X.mg "_law_bare" = some (.ref fb) ∧ PySem.W.keepIn X.K (.ref fb) = true ∧ Binds X.K db pb [] ∧ FnOk X.prog X.w X.K X.mg X.base CX0 k fb db pb sb) ∧
    ∀ (a b d : D) (v : V) (H : Hp) (Q Qr : VK), Rp X.K H v a → g a b = some d → QOk X.K H d Q →
      (∀ v1 H1, Same H H1 → (∀ u H2, Same H1 H2 → Rp X.K H2 u b → sl [v1, u] H2 (fun v2 H3 => sb [v2] H3 Q E0) E0) → Qr v1 H1) → sr [v] H Qr E0
section
variable {X : Cx}
theorem noMarkOf (y : Expr) (op : CmpOp) (h : noSet y = true) : behindInMarks op y = false := by
  cases y <;> first | rfl | exact nomatch h
theorem de_chain {a b c : Expr} {fa fb fc : Rho → Option D} {pos : Pos} (h1 : DE X a fa) (h2 : DE X b fb) (h3 : DE X c fc) :
    DE X (.Compare a [.LtE, .LtE] [b, c] pos) (fun ρ => (fa ρ).bind fun x => (asI x).bind fun i => (fb ρ).bind fun y => (asI y).bind fun j => if i ≤ j then (fc ρ).bind fun z => (asI z).bind fun k => some (.bool (decide (j ≤ k))) else some (.bool false)) := by
  obtain ⟨t1, p1, q1⟩ := h1
  obtain ⟨t2, p2, q2⟩ := h2
  obtain ⟨t3, p3, q3⟩ := h3
  refine ⟨_, pe_chain op_le op_le p1 p2 p3 (show behindInMarks .LtE c = false from nomark c), fun σ H ρ d Q E h q => ?_⟩
  obtain ⟨x, hx, h⟩ := bind_some h
  obtain ⟨i, hi, h⟩ := bind_some h
  obtain ⟨y, hy, h⟩ := bind_some h
  obtain ⟨j, hj, h9⟩ := bind_some h
  cases asI_some hi
  cases asI_some hj
  refine q1 σ H ρ _ _ E hx fun v1 H1 s1 r1 => ?_
  refine q2 σ H1 ρ _ _ (E.mono s1) hy fun v2 H2 s2 r2 => ?_
  refine ⟨i, j, r1.intI, r2.intI, decide (i ≤ j), rfl, ?_⟩
  split at h9
  · rename_i hl
    obtain ⟨z, hz, h⟩ := bind_some h9
    obtain ⟨k, hk, h8⟩ := bind_some h
    cases asI_some hk
    cases h8
    rw [decide_eq_true hl]
    refine iteT (q3 σ H2 ρ _ _ (E.mono (s1.trans s2)) hz fun v3 H3 s3 r3 => ?_)
    exact ⟨j, k, r2.intI, r3.intI, q _ H3 (s1.trans (s2.trans s3)) (.bl _)⟩
  · rename_i hl
    cases h9
    rw [decide_eq_false hl]
    exact iteF (q _ H2 (s1.trans s2) (.bl _))
/-! ### calls -/
theorem de_call {k : Nat} {x : Str} {ps : List Str} {g : List D → Option D} {e : Expr} {es : List Expr} {f : Rho → Option (List D)} {p pos : Pos} (F : FOk X k x ps g) (hr : Room k X.A) (hg : Gl X x) (ha : DA X (e :: es) f)
    (hdb : (x == ("__debug__" : Str)) = false) (he : starEach (e :: es) X.env = (false, eval e X.env) :: starEach es X.env) (hpl : (backTo pos (starEach es X.env)).any (·.1) = false) :
    DE X (.Call (.Name x p) (e :: es) [] pos) (fun ρ => (f ρ).bind g) := by
  obtain ⟨fa, fd, m, kp, b, G⟩ := F.ex
  obtain ⟨t, pa, qa⟩ := ha
  refine ⟨_, pe_call G hr hg m kp b .nil pass0 pa hdb he hpl, fun σ H ρ d Q E h q => ?_⟩
  obtain ⟨ys, hy, h⟩ := bind_some h
  refine qa σ H ρ ys _ E hy fun vs H1 s1 r1 => ?_
  show spD X.K g (vs ++ []) H1 Q E0
  rw [List.append_nil]
  exact ⟨ys, d, r1, h, fun v H' s r => q v H' (s1.trans s) r⟩
theorem de_built {id : String} {x : Str} {e : Expr} {es : List Expr} {f : Rho → Option (List D)} {g : List D → Option D} {p pos : Pos} {r : List V → Hp → VK → Prop} (hc : CallR X (.builtin id) r) (hg : Gl X x) (hm : X.mg x = none) (hv : bootBuiltins x = some (.builtin id)) (ha : DA X (e :: es) f)
    (hr : ∀ (vs : List V) (ds : List D) (d : D) (H : Hp) (Q : VK), RpA X.K H vs ds → g ds = some d → QOk X.K H d Q → r vs H Q) (hn : x ≠ "__name__")
    (hdb : (x == ("__debug__" : Str)) = false) (he : starEach (e :: es) X.env = (false, eval e X.env) :: starEach es X.env) (hpl : (backTo pos (starEach es X.env)).any (·.1) = false) :
    DE X (.Call (.Name x p) (e :: es) [] pos) (fun ρ => (f ρ).bind g) := by
  obtain ⟨t, pa, qa⟩ := ha
  refine ⟨_, pe_callB hc hg hm hv pa hn hdb he hpl, fun σ H ρ d Q E h q => ?_⟩
  obtain ⟨ys, hy, h⟩ := bind_some h
  refine qa σ H ρ ys _ E hy fun vs H1 s1 r1 => ?_
  exact hr vs ys d H1 Q r1 h fun v H' s r => q v H' (s1.trans s) r
theorem allB_some : ∀ {ds : List D} {b : Bool}, allB ds = some b → ∃ bs : List Bool, ds = bs.map PyData.bool ∧ b = bs.all id
  | [], b, h => by cases h; exact ⟨[], rfl, rfl⟩
  | d :: r, b, h => by
    cases d with
    | bool c =>
      obtain ⟨e, h1, h2⟩ := bind_some (show (allB r).bind (fun z => some (c && z)) = some b from h)
      cases h2
      obtain ⟨bs, e1, e2⟩ := allB_some h1
      exact ⟨c :: bs, by rw [e1]; rfl, by rw [e2]; rfl⟩
    | _ => exact absurd h (by simp [allB])
theorem RpA.bls {K : PySem.W.Frag} {H : Hp} : ∀ {vs : List V} {bs : List Bool}, RpA K H vs (bs.map PyData.bool) → vs = bs.map V.bl
  | _, [], .nil => rfl
  | _, _ :: _, .cons h r => by rw [h.blI, RpA.bls r]; rfl
theorem RpA.ints {K : PySem.W.Frag} {H : Hp} : ∀ {vs : List V} {bs : List Int}, RpA K H vs (bs.map PyData.int) → vs = bs.map V.int
  | _, [], .nil => rfl
  | _, _ :: _, .cons h r => by rw [h.intI, RpA.ints r]; rfl
theorem tyX_of {H : Hp} {v : V} {d : D} (r : Rp X.K H v d) : TyX X.K H v (.type (tyOf d)) := by
  cases r with
  | non => exact .base .non
  | bl b => exact .base (.bl b)
  | int i => exact .base (.int i)
  | str x => exact .base (.str x)
  | lst h _ => exact .base (.lst h)
  | tup h _ =>
    rcases h with (h | ⟨o, h⟩) | ⟨o, its, n, h1, h2, h3⟩
    · exact .base (.tup h)
    · exact .fTuple h
    · exact .kTuple h1 h2
theorem kit_tab : ∀ t : Ty, kitB "NoneType" (tyname t) = some false ∧ kitB "bool" (tyname t) = some (isTy t (.bool true)) ∧ kitB "int" (tyname t) = some (isTy t (.int 0)) ∧ kitB "str" (tyname t) = some (isTy t (.str "")) ∧ kitB "list" (tyname t) = some (isTy t (.list [])) ∧ kitB "tuple" (tyname t) = some (isTy t (.tuple []))
  | .int => by decide +kernel
  | .bool => by decide +kernel
  | .str => by decide +kernel
  | .tuple => by decide +kernel
  | .list => by decide +kernel
theorem isTy_of {t : Ty} {H : Hp} {v : V} {d : D} (r : Rp X.K H v d) : PySem.W.kitOne X.K (.type (tyOf d)) (.type (tyname t)) = some (isTy t d) := by
  obtain ⟨h0, h1, h2, h3, h4, h5⟩ := kit_tab t
  refine kit_ty ?_
  cases r with
  | non => rw [show tyOf .none = "NoneType" from rfl, h0]; cases t <;> rfl
  | bl b => rw [show tyOf (.bool b) = "bool" from rfl, h1]; cases t <;> rfl
  | int i => rw [show tyOf (.int i) = "int" from rfl, h2]; cases t <;> rfl
  | str x => rw [show tyOf (.str x) = "str" from rfl, h3]; cases t <;> rfl
  | lst h _ => rw [show tyOf (.list _) = "list" from rfl, h4]; cases t <;> rfl
  | tup h _ => rw [show tyOf (.tuple _) = "tuple" from rfl, h5]; cases t <;> rfl
theorem boot_isi : bootBuiltins "isinstance" = some (.builtin "isinstance") := by decide +kernel
theorem boot_allB : bootBuiltins "all" = some (.builtin "all") := by decide +kernel
theorem boot_maxB : bootBuiltins "max" = some (.builtin "max") := by decide +kernel
theorem boot_minB : bootBuiltins "min" = some (.builtin "min") := by decide +kernel
theorem boot_ty : ∀ t : Ty, bootBuiltins (tyname t) = some (.type (tyname t))
  | .int => by decide +kernel
  | .bool => by decide +kernel
  | .str => by decide +kernel
  | .tuple => by decide +kernel
  | .list => by decide +kernel
theorem starN {e : Expr} (h : noComp e = true ∨ True) (es : List Expr) (env : Env) (hs : ∀ a p, e ≠ .Starred a p) : starEach (e :: es) env = (false, eval e env) :: starEach es env := by
  cases e <;> first | rfl | exact absurd rfl (hs _ _)
theorem de_len {a : Expr} {f : Rho → Option D} {p pos : Pos} (h : DE X a f) (hg : Gl X "len") (hm : X.mg "len" = none) (he : starEach [a] X.env = (false, eval a X.env) :: starEach [] X.env) : DE X (.Call (.Name "len" p) [a] [] pos) (fun ρ => (f ρ).bind fun x => op1 .len x) := by
  obtain ⟨t, pa, qa⟩ := h
  refine ⟨_, pe_callB call_len_seq hg hm PySem.boot_len (pa_cons pa pa_nil he) (by decide) (by decide) he rfl, fun σ H ρ d Q E h q => ?_⟩
  obtain ⟨x, hx, h⟩ := bind_some h
  refine qa σ H ρ x _ E hx fun v H1 s1 r1 => ?_
  cases r1 with
  | lst h1 r => cases h; exact ⟨_, _, rfl, .inl (SqL.of h1), by rw [r.length]; exact q _ H1 s1 (.int _)⟩
  | tup h1 r => cases h; exact ⟨_, _, rfl, .inr h1, by rw [r.length]; exact q _ H1 s1 (.int _)⟩
  | _ => exact absurd h (by simp [op1])
theorem de_all {a : Expr} {f : Rho → Option D} {p pos : Pos} (hc : X.calm = true) (h : DE X a f) (hg : Gl X "all") (hm : X.mg "all" = none) (he : starEach [a] X.env = (false, eval a X.env) :: starEach [] X.env) : DE X (.Call (.Name "all" p) [a] [] pos) (fun ρ => (f ρ).bind fun x => op1 .all x) := by
  obtain ⟨t, pa, qa⟩ := h
  refine ⟨_, pe_callB (cr_all hc) hg hm boot_allB (pa_cons pa pa_nil he) (by decide) (by decide) he rfl, fun σ H ρ d Q E h q => ?_⟩
  obtain ⟨x, hx, h⟩ := bind_some h
  refine qa σ H ρ x _ E hx fun v H1 s1 r1 => ?_
  cases r1 with
  | lst h1 r =>
    obtain ⟨b, h2, h3⟩ := bind_some h
    cases h3
    obtain ⟨bs, e1, e2⟩ := allB_some h2
    subst e1 e2
    exact ⟨_, bs, rfl, SqL.of (by rw [h1, r.bls]), q _ H1 s1 (.bl _)⟩
  | _ => exact absurd h (by simp [op1])
/-! ### sorted(a tuple of ints), list(range(a, b)) -/
section
variable {prog : Program} {w : World} {A : Around} {E : Value → Shared → Prop} {s : Shared}
theorem collT {t : Addr} {vs : List Value} {o : Obj} {n : Nat} {Q : List Value → Shared → Prop} (ho : s.heap.get? t = some o) (hc : o.cls = .type "tuple") (hd : o.data = .seq vs.toArray n) (hz : vs.length ≤ sizeLine)
    (h : Q vs { s with heap := (s.heap.push (seqObj "list" #[] 0)).update s.heap.objs.size (Obj.mapSeq (· ++ vs.toArray)) }) : wpAny (model prog w) A (collect (.ref t)) Q E s := by
  unfold collect
  apply wpAny_bind; apply wpAny_runValue; apply codeAny_builtin entry_proto_collect'
  show wpAny _ _ (newList [] >>= fun l => again (.builtin "list.__iadd__" ⟨[l, .ref t], []⟩)) _ _ s
  apply wpAny_bind; apply wpAny_newList (hsz := Nat.zero_le _); apply wpAny_pure
  refine ⟨Code.quiet_builtin _ (by decide +kernel), codeAny_builtin entry_list_iadd' ?_⟩
  have kt : (s.heap.push (seqObj "list" #[] 0)).get? t = some o := Heap.get?_push_of_some _ ho
  have kn : (s.heap.push (seqObj "list" #[] 0)).get? s.heap.objs.size = some (seqObj "list" #[] 0) := Heap.get?_push_size _ rfl
  show wpAny _ _ (Builtin.List.listExtendWith (.ref s.heap.objs.size) (.ref t) (.ref s.heap.objs.size)) _ _ { s with heap := s.heap.push (seqObj "list" #[] 0) }
  unfold Builtin.List.listExtendWith
  refine wpAny_bind (wpAny_typeOf (T := "tuple") ⟨o, kt, hc⟩ ?_)
  rw [if_pos (by simp)]
  refine wpAny_bind (listItems_at kt hd (wpAny_bind (listItems_at (n := 0) kn rfl ?_)))
  rw [if_neg (by simp)]
  refine wpAny_bind (listUpdate_at (n := 0) kn rfl (wpAny_pure ?_) (Nat.zero_le _) (by simp; omega))
  refine wpAny_bind (wpAny_load (get?_update_seq kn _) ?_)
  show wpAny _ _ (pure ((#[] : Array Value) ++ vs.toArray).toList) Q E _
  have e : ((#[] : Array Value) ++ vs.toArray).toList = vs := by simp
  rw [e]
  exact wpAny_pure h
theorem sortT {t : Addr} {vs : List Value} {ns : List Int} {o : Obj} {n : Nat} {Q : Value → Shared → Prop} (ho : s.heap.get? t = some o) (hc : o.cls = .type "tuple") (hd : o.data = .seq vs.toArray n) (hI : IntsAre vs ns) (h64 : vs.length < 64)
    (h : ∀ (out : Array Value) (ms : List Int), IntsAre out.toList ms → ms.Perm ns → ms.Pairwise (· ≤ ·) → Q (.ref (s.heap.objs.size + 1)) { s with heap := sortedAll s.heap vs out }) : wpAny (model prog w) A (call (.builtin "sorted") [.ref t]) Q E s := by
  apply Calls.call_function_entry kind_sorted plain_sorted entry_sorted (args_sorted1 _)
  unfold Builtin.«sorted»
  apply wpAny_bind (m := checkCount "sorted" 1 1 _); apply wpAny_pure
  apply wpAny_bind; refine collT ho hc hd (small64 h64) ?_
  apply wpAny_bind; apply wpAny_newList (hsz := small64 h64)
  generalize hX : (s.heap.push (seqObj "list" #[] 0)).update s.heap.objs.size (Obj.mapSeq (· ++ vs.toArray)) = X
  have hz : X.objs.size = s.heap.objs.size + 1 := by rw [← hX, Heap.size_update, size_push']
  have hl : (X.push (seqObj "list" vs.toArray 0)).get? (s.heap.objs.size + 1) = some (seqObj "list" vs.toArray 0) := by rw [← hz]; exact Heap.get?_push_size _ rfl
  show wpAny _ _ _ _ _ { s with heap := X.push (seqObj "list" vs.toArray 0) }
  rw [hz]
  refine wpAny_bind (wpAny_holding (wpAny_call_entry slot_list_sort ⟨_, hl, rfl⟩ entry_list_sort (list_sort_tree hl hI h64 fun out ms a1 a2 a3 => ⟨_, rfl, ?_⟩) (args_list_sort _)))
  subst hX
  exact wpAny_pure ⟨_, rfl, h out ms a1 a2 a3⟩
end

theorem intsD_some : ∀ {ds : List D} {ns : List Int}, intsD ds = some ns → ds = ns.map PyData.int
  | [], _, h => by cases h; rfl
  | d :: r, ns, h => by
    cases d with
    | int i =>
      obtain ⟨ms, h1, h2⟩ := bind_some (show (intsD r).bind _ = some ns from h)
      cases h2
      rw [intsD_some h1]
      rfl
    | _ => exact absurd h (by simp [intsD])
def rSortSeq (K : PySem.W.Frag) : List V → Hp → VK → Prop := fun vs H Q => ∃ (a : Addr) (ns : List Int), vs = [V.ref a] ∧ (SqL K H a (ns.map V.int) ∨ SqT K H a (ns.map V.int)) ∧ ns.length < 64 ∧ ∀ p : Addr, H p = none → Q (.ref p) (upd H p (.lst ((isort ns).map V.int)))
theorem cr_sortSeq : CallR X (.builtin "sorted") (rSortSeq X.K) := by
  intro pins s σ H vs us Q I r h
  obtain ⟨a, ns, rfl, hs, h64, q⟩ := h
  rcases hs with hs | hs
  · exact cr_sorted pins s σ H [V.ref a] us Q I r ⟨a, ns, rfl, hs, h64, fun ms p h1 h2 h3 => by rw [isort_eq h1 h2]; exact q p h3⟩
  · obtain ⟨its, rv, ht, _⟩ := I.tuple hs
    obtain ⟨o, ho, hc, n, hd⟩ := ht
    rw [Vals.ref1 r]
    have hi := rv.ints
    refine sortT ho hc hd hi (by rw [hi.length]; exact h64) fun out ms h1 h2 h3 => ?_
    obtain ⟨ep, he⟩ := PyProof.Rows.sortedAll_at s.heap its out
    have hz : (ms.map V.int).length ≤ sizeLine := by rw [List.length_map, h2.length_eq]; exact small64 h64
    refine ⟨.ref _, upd H (s.heap.objs.size + 1) (.lst (ms.map V.int)), I.laid (t' := s.toks) (fun _ _ => PyProof.Rows.sortedAll_old) (Nat.le_succ _) ⟨hz, out.toList, ep, vals_of_ints h1, he⟩, rfl, ?_⟩
    rw [isort_eq h2 h3]
    exact q _ (I.hok.fresh (Nat.le_succ _))
theorem boot_sortedB : bootBuiltins "sorted" = some (.builtin "sorted") := by decide +kernel
theorem de_sorted {a : Expr} {f : Rho → Option D} {p pos : Pos} (h : DE X a f) (hg : Gl X "sorted") (hm : X.mg "sorted" = none) (he : starEach [a] X.env = (false, eval a X.env) :: starEach [] X.env) : DE X (.Call (.Name "sorted" p) [a] [] pos) (fun ρ => (f ρ).bind fun x => op1 .sorted x) := by
  obtain ⟨t, pa, qa⟩ := h
  refine ⟨_, pe_callB cr_sortSeq hg hm boot_sortedB (pa_cons pa pa_nil he) (by decide) (by decide) he rfl, fun σ H ρ d Q E h q => ?_⟩
  obtain ⟨x, hx, h1⟩ := bind_some h
  refine qa σ H ρ x _ E hx fun v H1 s1 r1 => ?_
  obtain ⟨ds, h2, h3⟩ := bind_some h1
  obtain ⟨ns, h4, h5⟩ := bind_some h3
  split at h5
  · rename_i hl
    cases h5
    have e := intsD_some h4
    have fin : ∀ p, H1 p = none → Q (.ref p) (upd H1 p (.lst ((isort ns).map V.int))) := fun p np => q _ _ (s1.trans (same_upd np)) (.lst upd_same (by
      have := rpA_of (K := X.K) (H := upd H1 p (.lst ((isort ns).map V.int))) (ds := (isort ns).map PyData.int) (by rw [List.all_map]; exact List.all_eq_true.mpr fun _ _ => rfl)
      rw [List.map_map] at this
      exact this))
    cases r1 with
    | lst ha r =>
      cases h2
      subst e
      exact ⟨_, ns, rfl, .inl (SqL.of (by rw [ha, r.ints])), hl, fin⟩
    | tup ha r =>
      cases h2
      subst e
      exact ⟨_, ns, rfl, .inr (by rw [← r.ints]; exact ha), hl, fin⟩
    | _ => exact nomatch h2
  · cases h5
theorem de_rng {a b : Expr} {fa fb : Rho → Option D} {p1 p2 p3 p4 : Pos} (hc : X.calm = true) (ha : DE X a fa) (hb : DE X b fb) (g1 : Gl X "list") (g2 : Gl X "range") (m1 : X.mg "list" = none) (m2 : X.mg "range" = none)
    (na : starEach [a, b] X.env = (false, eval a X.env) :: starEach [b] X.env) (nb : starEach [b] X.env = (false, eval b X.env) :: starEach [] X.env) :
    DE X (.Call (.Name "list" p1) [.Call (.Name "range" p2) [a, b] [] p3] [] p4) (fun ρ => (fa ρ).bind fun x => (asI x).bind fun i => (fb ρ).bind fun y => (asI y).bind fun j => if 0 ≤ i ∧ i ≤ 1000 ∧ 0 ≤ j ∧ j ≤ 1000 then some (.list ((List.range (j - i).toNat).map fun n : Nat => PyData.int (i + n))) else none) := by
  obtain ⟨t1, pa, qa⟩ := ha
  obtain ⟨t2, pb, qb⟩ := hb
  refine ⟨_, pe_listRg hc g1 m1 (prg_2 g2 m2 pa pb na nb (by rw [nb]; rfl)) rfl, fun σ H ρ d Q E h q => ?_⟩
  obtain ⟨x, hx, h1⟩ := bind_some h
  obtain ⟨i, hi, h2⟩ := bind_some h1
  obtain ⟨y, hy, h3⟩ := bind_some h2
  obtain ⟨j, hj, h9⟩ := bind_some h3
  cases asI_some hi
  cases asI_some hj
  split at h9
  · rename_i hl
    cases h9
    refine qa σ H ρ _ _ E hx fun v1 H1 s1 r1 => ?_
    refine qb σ H1 ρ _ _ (E.mono s1) hy fun v2 H2 s2 r2 => ?_
    refine ⟨i, j, r1.intI, r2.intI, RgOk.of_le hl.1 (by omega) (by omega) (by omega), fun p np => ?_⟩
    refine q _ _ (s1.trans (s2.trans (same_upd np))) (.lst upd_same ?_)
    have := rpA_of (K := X.K) (H := upd H2 p (.lst (rgV i j))) (ds := (List.range (j - i).toNat).map fun n : Nat => PyData.int (i + n)) (by rw [List.all_map]; exact List.all_eq_true.mpr fun _ _ => rfl)
    rw [List.map_map] at this
    exact this
  · cases h9
theorem de_isi {t : Ty} {a : Expr} {f : Rho → Option D} {p p2 pos : Pos} (h : DE X a f) (hg : Gl X "isinstance") (hm : X.mg "isinstance" = none) (hg2 : Gl X (tyname t)) (hm2 : X.mg (tyname t) = none)
    (he : starEach [a, .Name (tyname t) p2] X.env = (false, eval a X.env) :: starEach [.Name (tyname t) p2] X.env) : DE X (.Call (.Name "isinstance" p) [a, .Name (tyname t) p2] [] pos) (fun ρ => (f ρ).bind fun x => op1 (.isi t) x) := by
  obtain ⟨tt, pa, qa⟩ := h
  have pt : PE X (.Name (tyname t) p2) (tC (.ty (tyname t))) := pe_bltn (v := .ty (tyname t)) hg2 hm2 (boot_ty t) rfl (by cases t <;> decide) (by cases t <;> decide)
  refine ⟨_, pe_callB call_isi hg hm boot_isi (pa_cons pa (pa_cons pt pa_nil) he) (by decide) (by decide) he rfl, fun σ H ρ d Q E h q => ?_⟩
  obtain ⟨x, hx, h⟩ := bind_some h
  cases h
  refine qa σ H ρ x _ E hx fun v H1 s1 r1 => ?_
  exact ⟨v, .ty (tyname t), _, _, isTy t x, rfl, .ty _, tyX_of r1, isTy_of r1, q _ H1 s1 (.bl _)⟩
theorem de_mm {b : B2} {x : Str} {a c : Expr} {f g : Rho → Option D} {p pos : Pos} (hb : f2 b = some x) (hc : X.calm = true) (h1 : DE X a f) (h2 : DE X c g) (hg : Gl X x) (hm : X.mg x = none)
    (he : starEach [a, c] X.env = (false, eval a X.env) :: starEach [c] X.env) (he2 : starEach [c] X.env = (false, eval c X.env) :: starEach [] X.env) : DE X (.Call (.Name x p) [a, c] [] pos) (fun ρ => (f ρ).bind fun x => (g ρ).bind fun y => op2 b x y) := by
  obtain ⟨t1, p1, q1⟩ := h1
  obtain ⟨t2, p2, q2⟩ := h2
  have hpl : (backTo pos (starEach [c] X.env)).any (·.1) = false := by rw [he2]; rfl
  cases b <;> first | (simp [f2] at hb; done) | cases hb
  · refine ⟨_, pe_callB (call_max2 hc) hg hm boot_maxB (pa_cons p1 (pa_cons p2 pa_nil he2) he) (by decide) (by decide) he hpl, fun σ H ρ d Q E h q => ?_⟩
    obtain ⟨x, hx, h⟩ := bind_some h
    obtain ⟨y, hy, h⟩ := bind_some h
    refine q1 σ H ρ x _ E hx fun v1 H1 s1 r1 => ?_
    refine q2 σ H1 ρ y _ (E.mono s1) hy fun v2 H2 s2 r2 => ?_
    cases x <;> first | (cases h; done) | skip
    cases y <;> first | (cases h; done) | skip
    cases h
    exact ⟨_, _, by rw [r1.intI, r2.intI], q _ H2 (s1.trans s2) (.int _)⟩
  · refine ⟨_, pe_callB (call_min2 hc) hg hm boot_minB (pa_cons p1 (pa_cons p2 pa_nil he2) he) (by decide) (by decide) he hpl, fun σ H ρ d Q E h q => ?_⟩
    obtain ⟨x, hx, h⟩ := bind_some h
    obtain ⟨y, hy, h⟩ := bind_some h
    refine q1 σ H ρ x _ E hx fun v1 H1 s1 r1 => ?_
    refine q2 σ H1 ρ y _ (E.mono s1) hy fun v2 H2 s2 r2 => ?_
    cases x <;> first | (cases h; done) | skip
    cases y <;> first | (cases h; done) | skip
    cases h
    exact ⟨_, _, by rw [r1.intI, r2.intI], q _ H2 (s1.trans s2) (.int _)⟩
theorem de_lvl {k : Nat} {y : Str} {g : D → D → Option D} {a b : Expr} {fa fb : Rho → Option D} {p1 p2 p3 p4 p5 p6 : Pos} (L : LvOk X k y g) (hr : Room k X.A) (g1 : Gl X "_law_ranked") (g2 : Gl X y) (g3 : Gl X "_law_bare") (ha : DE X a fa) (hb : DE X b fb) (hdb : (y == ("__debug__" : Str)) = false)
    (he1 : starEach [a] X.env = (false, eval a X.env) :: starEach [] X.env) (he2 : starEach [b] X.env = (false, eval b X.env) :: starEach [] X.env) :
    DE X (.Call (.Name "_law_bare" p1) [.Call (.Name y p2) [.Call (.Name "_law_ranked" p3) [a] [] p4, b] [] p5] [] p6) (fun ρ => (fa ρ).bind fun x => (fb ρ).bind fun y => g x y) := by
  obtain ⟨fr, fl, fbb, dr, dl, db, pr, pl, pb, sr, sl, sb, ⟨m1, k1, b1, G1⟩, ⟨m2, k2, b2, G2⟩, ⟨m3, k3, b3, G3⟩, go⟩ := L.ex
  obtain ⟨ta, pa, qa⟩ := ha
  obtain ⟨tb, pb', qb⟩ := hb
  have hpl : (backTo p5 (starEach [b] X.env)).any (·.1) = false := by rw [he2]; rfl
  refine ⟨_, pe_call G3 hr g3 m3 k3 b3 .nil pass0 (pa_cons (pe_call G2 hr g2 m2 k2 b2 .nil pass0 (pa_cons (pe_call G1 hr g1 m1 k1 b1 .nil pass0 (pa_cons pa pa_nil he1) (by decide) he1 rfl) (pa_cons pb' pa_nil he2) rfl) hdb rfl hpl) pa_nil rfl) (by decide) rfl rfl, fun σ H ρ d Q E h q => ?_⟩
  obtain ⟨x, hx, h⟩ := bind_some h
  obtain ⟨y, hy, h⟩ := bind_some h
  refine qa σ H ρ x _ E hx fun v H1 s1 r1 => ?_
  refine go x y d v H1 Q _ r1 h (fun v H' s r => q v H' (s1.trans s) r) fun v1 H2 s2 rest => ?_
  refine qb σ H2 ρ y _ (E.mono (s1.trans s2)) hy fun u H3 s3 r3 => ?_
  exact rest u H3 s3 r3
/-! ### slices -/
def DO (X : Cx) (e : Option Expr) (f : Rho → Option (Option Int)) : Prop := ∃ t : TO, PO X e t ∧ ∀ (σ : L2.St) (H : Hp) (ρ : Rho) (o : Option Int) (Q : Option Int → Hp → Prop), EnvR X.K H σ ρ → f ρ = some o → (∀ H', Same H H' → Q o H') → t σ H Q
theorem do_none : DO X none (fun _ => some none) := ⟨_, po_none, fun σ H ρ o Q E h q => by cases h; exact q H (Same.refl H)⟩
theorem do_some {e : Expr} {f : Rho → Option D} (h : DE X e f) : DO X (some e) (fun ρ => (f ρ).bind fun l => (asI l).bind fun i => some (some i)) := by
  obtain ⟨t, p, q⟩ := h
  refine ⟨_, po_some p, fun σ H ρ o Q E h hq => ?_⟩
  obtain ⟨x, h1, h2⟩ := bind_some h
  obtain ⟨k, h3, h4⟩ := bind_some h2
  cases h4
  cases asI_some h3
  exact q σ H ρ _ _ E h1 fun v H' s r => ⟨k, r.intI, hq H' s⟩
theorem cut_rep {K : PySem.W.Frag} {H : Hp} {xs : List V} {ds : List D} (r : RpA K H xs ds) (lo hi : Option Int) : RpA K H (cutV xs lo hi) (cutD ds lo hi) := by
  unfold cutV cutD
  rw [r.length]
  exact (r.drop _).take _
theorem de_slc {a : Expr} {lo hi : Option Expr} {fa : Rho → Option D} {fl fh : Rho → Option (Option Int)} {p2 pos : Pos} (ha : DE X a fa) (hl : DO X lo fl) (hh : DO X hi fh) :
    DE X (.Subscript a (.Slice lo hi none p2) pos) (fun ρ => (fa ρ).bind fun x => (asL x).bind fun xs => (fl ρ).bind fun l => (fh ρ).bind fun h => some (.list (cutD xs l h))) := by
  obtain ⟨ta, pa, qa⟩ := ha
  obtain ⟨tl, pl, ql⟩ := hl
  obtain ⟨th, ph, qh⟩ := hh
  refine ⟨_, pe_slice sl_list pa pl ph, fun σ H ρ d Q E h q => ?_⟩
  obtain ⟨x, hx, h⟩ := bind_some h
  obtain ⟨xs, hxs, h⟩ := bind_some h
  obtain ⟨l, hl, h⟩ := bind_some h
  obtain ⟨u, hu, h⟩ := bind_some h
  cases h
  cases asL_some hxs
  refine qa σ H ρ _ _ E hx fun v H1 s1 r1 => ?_
  refine ql σ H1 ρ l _ (E.mono s1) hl fun H2 s2 => ?_
  refine qh σ H2 ρ u _ (E.mono (s1.trans s2)) hu fun H3 s3 => ?_
  obtain ⟨b, ys, rfl, hb, r⟩ := (r1.mono (s2.trans s3)).lstI
  refine ⟨b, ys, rfl, SqL.of hb, fun p np => ?_⟩
  exact q _ _ (s1.trans (s2.trans (s3.trans (same_upd np)))) (.lst upd_same ((cut_rep r l u).mono (same_upd np)))
theorem de_rev {a : Expr} {k : Nat} {fa : Rho → Option D} {p1 p2 p3 pos : Pos} (ha : DE X a fa) :
    DE X (.Subscript a (.Slice none none (some (.UnaryOp .USub (.Constant (.int 1) k p1) p2)) p3) pos) (fun ρ => (fa ρ).bind fun x => (asL x).bind fun xs => some (.list xs.reverse)) := by
  obtain ⟨ta, pa, qa⟩ := ha
  refine ⟨_, pe_revL pa, fun σ H ρ d Q E h q => ?_⟩
  obtain ⟨x, hx, h⟩ := bind_some h
  obtain ⟨xs, hxs, h⟩ := bind_some h
  cases h
  cases asL_some hxs
  refine qa σ H ρ _ _ E hx fun v H1 s1 r1 => ?_
  obtain ⟨b, ys, rfl, hb, r⟩ := r1.lstI
  refine ⟨b, ys, rfl, SqL.of hb, fun p np => ?_⟩
  exact q _ _ (s1.trans (same_upd np)) (.lst upd_same (r.reverse.mono (same_upd np)))
/-! ### comprehensions -/
/-- the tests of a comprehension -/
def DTs (X : Cx) (ifs : List Expr) (f : Rho → Option Bool) : Prop := ∃ t : TT, PTs X ifs t ∧ ∀ (σ : L2.St) (H : Hp) (ρ : Rho) (b : Bool) (Q : Bool → Hp → Prop), EnvR X.K H σ ρ → f ρ = some b → (∀ H', Same H H' → Q b H') → t σ H Q
theorem dts_nil : DTs X [] (fun _ => some true) := ⟨_, pts_nil, fun σ H ρ b Q E h q => by cases h; exact q H (Same.refl H)⟩
theorem dts_one {c : Expr} {f : Rho → Option Bool} (h : DT X c f) : DTs X [c] f := by
  obtain ⟨t, p, q⟩ := h
  exact ⟨_, pts_one p, q⟩
theorem compGo_len {fc : D → Option Bool} {fe : D → Option D} : ∀ {ds ys : List D}, compGo fc fe ds = some ys → ys.length ≤ ds.length ∧ ys.all flatD = true
  | [], _, h => by cases h; exact ⟨Nat.le_refl _, rfl⟩
  | x :: xs, ys, h => by
    obtain ⟨b, hb, h⟩ := bind_some (show (fc x).bind _ = some ys from h)
    cases b with
    | true =>
      obtain ⟨y, hy, h⟩ := bind_some (show (fe x).bind _ = some ys from h)
      split at h
      · rename_i fl
        obtain ⟨zs, hz, h⟩ := bind_some h
        cases h
        obtain ⟨l, f⟩ := compGo_len hz
        exact ⟨Nat.succ_le_succ l, by rw [List.all_cons, fl, f]; rfl⟩
      · cases h
    | false =>
      obtain ⟨l, f⟩ := compGo_len (show compGo fc fe xs = some ys from h)
      exact ⟨Nat.le_succ_of_le l, f⟩
/-- one turn of a comprehension -/
theorem comp_turn {K : PySem.W.Frag} {i0 : Nat} {σ : L2.St} {ρ : Rho} {H1 H : Hp} {Dl : Addr} {x : V} {d : D} {ds' done rest : List D} {fcb : D → Option Bool} {feb : D → Option D} {tt : TT} {te : TE} {N : Hp → Prop}
    (nD : H1 Dl = none) (s : Same H1 H) (E : EnvR K H1 σ ρ) (r : Rp K H x d) (hD : H Dl = some (.lst (done.map vOf))) (hf : done.all flatD = true) (hm : done.length ≤ 1000)
    (hgo : compGo fcb feb (d :: ds') = some rest)
    (qt : ∀ (σ' : L2.St) (H' : Hp) (b : Bool) (Q : Bool → Hp → Prop), EnvR K H' σ' (setE ρ i0 d) → fcb d = some b → (∀ H'', Same H' H'' → Q b H'') → tt σ' H' Q)
    (qe : ∀ (σ' : L2.St) (H' : Hp) (y : D) (Q : VK), EnvR K H' σ' (setE ρ i0 d) → feb d = some y → QOk K H' y Q → te σ' H' Q)
    (next : ∀ H' done' rest', Same H1 H' → H' Dl = some (.lst (done'.map vOf)) → done'.all flatD = true → done'.length ≤ done.length + 1 → compGo fcb feb ds' = some rest' → done' ++ rest' = done ++ rest → N H') :
    gName i0 x (wipe σ [i0]) H fun σ2 H2 => wipe σ2 [i0] = wipe σ [i0] ∧ tt σ2 H2 fun b H3 =>
      if b = true then te σ2 H3 fun y H4 => ∃ acc, H4 Dl = some (.lst acc) ∧ acc.length < sizeLine ∧ N (upd H4 Dl (.lst (acc ++ [y]))) else N H3 := by
  refine ⟨wipe_set σ i0 x, ?_⟩
  have E2 : EnvR K H ((wipe σ [i0]).set i0 (some x)) (setE ρ i0 d) := (E.mono s).setW r
  obtain ⟨b, hb, h⟩ := bind_some (show (fcb d).bind _ = some rest from hgo)
  refine qt _ H b _ E2 hb fun H3 s3 => ?_
  cases b with
  | true =>
    obtain ⟨y, hy, h⟩ := bind_some (show (feb d).bind _ = some rest from h)
    split at h
    · rename_i fl
      obtain ⟨zs, hz, h⟩ := bind_some h
      cases h
      refine iteT (qe _ H3 y _ (E2.mono s3) hy fun v H4 s4 r4 => ?_)
      have e4 : H4 Dl = some (.lst (done.map vOf)) := s4 _ _ (s3 _ _ hD)
      refine ⟨_, e4, by rw [List.length_map]; exact small1000 hm, ?_⟩
      refine next _ (done ++ [y]) zs (fun b o e => ?_) ?_ ?_ ?_ hz ?_
      · rw [upd_ne (ne_of_none e nD)]
        exact s4 _ _ (s3 _ _ (s _ _ e))
      · rw [upd_same, List.map_append, (r4.flat fl).1]
        rfl
      · rw [List.all_append, hf, List.all_cons, fl]
        rfl
      · rw [List.length_append]
        exact Nat.le_refl _
      · rw [List.append_assoc]
        rfl
    · cases h
  | false =>
    refine iteF (next H3 done rest (s.trans s3) (s3 _ _ hD) hf (Nat.le_succ _) h rfl)
theorem de_comp {l : Bool} {i0 : Nat} {x : Str} {px pos : Pos} {it elt : Expr} {ifs : List Expr} {scope : Scope} {fs fe : Rho → Option D} {fc : Rho → Option Bool} (hc : X.calm = true) (hN : X.N.Nodup) (hx : X.N[i0]? = some x) (ok : BlkOk X.N X.env.scope scope [(x, i0)])
    (hl : (relS scope X.env.scope).names.lookup x = some .local) (hs : DE X it fs) (hset : noSet it = true)
    (ht : ∃ t : TT, ∀ (s : Shared) (H : Hp) (Ca : Addr) (cl : List (Str × Addr)) (fp : List Addr), PTs (X.blk s H scope (compEnvC scope cl Ca X.env) fp) ifs t ∧ ∀ (σ : L2.St) (H : Hp) (ρ : Rho) (b : Bool) (Q : Bool → Hp → Prop), EnvR X.K H σ ρ → fc ρ = some b → (∀ H', Same H H' → Q b H') → t σ H Q)
    (he : ∃ t : TE, ∀ (s : Shared) (H : Hp) (Ca : Addr) (cl : List (Str × Addr)) (fp : List Addr), PE (X.blk s H scope (compEnvC scope cl Ca X.env) fp) elt t ∧ ∀ (σ : L2.St) (H : Hp) (ρ : Rho) (d : D) (Q : VK), EnvR X.K H σ ρ → fe ρ = some d → QOk X.K H d Q → t σ H Q) :
    DE X (.ListComp elt [⟨.Name x px, it, ifs, 0⟩] scope pos) (fun ρ => (fs ρ).bind fun x => (if l then asL x else asT x).bind fun ds => if ds.length ≤ 1000 then
      (compGo (fun d => fc (setE ρ i0 d)) (fun d => fe (setE ρ i0 d)) ds).bind fun ys => some (.list ys) else none) := by
  obtain ⟨ts, ps, qs⟩ := hs
  obtain ⟨tt, pt⟩ := ht
  obtain ⟨te, pe⟩ := he
  have hfs : ∀ z, foldedSetIterable it X.env z = pure z := fun z => by
    cases it <;> first | rfl | exact nomatch hset
  have qt := (pt {} (fun _ => none) 0 [] []).2
  have qe := (pe {} (fun _ => none) 0 [] []).2
  have hg : ∀ (s : Shared) (H : Hp) (Ca : Addr) (cl : List (Str × Addr)) (fp : List Addr), PG (X.blk s H scope (compEnvC scope cl Ca X.env) fp) (.Name x px) (gName i0) := fun s H Ca cl fp => pg_name (i := i0) hN hx (.inl hl) (.inr hl)
  cases l with
  | true =>
    refine ⟨_, pe_lc (own := [(x, i0)]) (g := gName i0) (tt := tt) (te := te) hc hN (pi_list ps) ok hg (fun s H Ca cl fp => (pt s H Ca cl fp).1) (fun s H Ca cl fp => (pe s H Ca cl fp).1) hfs, fun σ H ρ d Q E h q => ?_⟩
    obtain ⟨z, hz, h⟩ := bind_some h
    obtain ⟨ds, hds, h9⟩ := bind_some h
    cases asL_some hds
    split at h9
    · rename_i hlen
      obtain ⟨ys, hys, h8⟩ := bind_some h9
      cases h8
      refine qs σ H ρ _ _ E hz fun v H1 s1 r1 => ?_
      obtain ⟨a, xs, rfl, ha, rx⟩ := r1.lstI
      refine ⟨a, rfl, ⟨xs, SqL.of ha⟩, fun Dl nD => ?_⟩
      refine lc_list (K := X.K) (a := a) (xs := xs) (fun i H' => Same H1 H' ∧ ∃ done rest, H' Dl = some (.lst (done.map vOf)) ∧ done.all flatD = true ∧ done.length ≤ i ∧ compGo (fun d => fc (setE ρ i0 d)) (fun d => fe (setE ρ i0 d)) (ds.drop i) = some rest ∧ done ++ rest = ys) ?_ ?_ ?_ ?_
      · exact ⟨same_upd nD, [], ys, upd_same, rfl, Nat.le_refl _, hys, rfl⟩
      · rintro i H' _ ⟨s', _⟩
        exact SqL.of (s' _ _ ha)
      · rintro i x' H' hxi ⟨s', done, rest, hD, hf, hle, hgo, hcat⟩
        have hi : i < ds.length := by
          rw [← rx.length]
          exact (List.getElem?_eq_some_iff.mp hxi).1
        obtain ⟨dd, hdd, rd⟩ := rx.getV hxi
        have hdrop : ds.drop i = dd :: ds.drop (i + 1) := by
          rw [List.drop_eq_getElem_cons hi]
          rw [List.getElem?_eq_getElem hi] at hdd
          cases hdd
          rfl
        rw [hdrop] at hgo
        refine comp_turn nD s' (E.mono s1) (rd.mono s') hD hf (by omega) hgo (fun σ' H'' b Q' E' hb hq => qt σ' H'' _ b Q' E' hb hq) (fun σ' H'' y Q' E' hy hq => qe σ' H'' _ y Q' E' hy hq) fun H'' done' rest' s'' hD' hf' hl' hgo' hcat' => ?_
        exact ⟨s'', done', rest', hD', hf', by omega, hgo', by rw [hcat', hcat]⟩
      · rintro H' ⟨s', done, rest, hD, hf, hle, hgo, hcat⟩
        rw [List.drop_eq_nil_of_le (by rw [rx.length]; exact Nat.le_refl _)] at hgo
        cases hgo
        rw [List.append_nil] at hcat
        subst hcat
        exact q _ H' (s1.trans s') (.lst hD (rpA_of hf))
    · cases h9
  | false =>
    refine ⟨_, pe_lc (own := [(x, i0)]) (g := gName i0) (tt := tt) (te := te) hc hN (pi_tup ps) ok hg (fun s H Ca cl fp => (pt s H Ca cl fp).1) (fun s H Ca cl fp => (pe s H Ca cl fp).1) hfs, fun σ H ρ d Q E h q => ?_⟩
    obtain ⟨z, hz, h⟩ := bind_some h
    obtain ⟨ds, hds, h9⟩ := bind_some h
    cases asT_some hds
    split at h9
    · rename_i hlen
      obtain ⟨ys, hys, h8⟩ := bind_some h9
      cases h8
      refine qs σ H ρ _ _ E hz fun v H1 s1 r1 => ?_
      obtain ⟨a, xs, rfl, ha, rx⟩ := r1.tupI
      refine ⟨a, rfl, ⟨xs, ha⟩, fun Dl nD => ?_⟩
      refine lc_tup (K := X.K) (a := a) (xs := xs) (fun i H' => Same H1 H' ∧ ∃ done rest, H' Dl = some (.lst (done.map vOf)) ∧ done.all flatD = true ∧ done.length ≤ i ∧ compGo (fun d => fc (setE ρ i0 d)) (fun d => fe (setE ρ i0 d)) (ds.drop i) = some rest ∧ done ++ rest = ys) ?_ ?_ ?_ ?_
      · exact ⟨same_upd nD, [], ys, upd_same, rfl, Nat.le_refl _, hys, rfl⟩
      · rintro i H' _ ⟨s', _⟩
        exact sqT_mono s' ha
      · rintro i x' H' hxi ⟨s', done, rest, hD, hf, hle, hgo, hcat⟩
        have hi : i < ds.length := by
          rw [← rx.length]
          exact (List.getElem?_eq_some_iff.mp hxi).1
        obtain ⟨dd, hdd, rd⟩ := rx.getV hxi
        have hdrop : ds.drop i = dd :: ds.drop (i + 1) := by
          rw [List.drop_eq_getElem_cons hi]
          rw [List.getElem?_eq_getElem hi] at hdd
          cases hdd
          rfl
        rw [hdrop] at hgo
        refine comp_turn nD s' (E.mono s1) (rd.mono s') hD hf (by omega) hgo (fun σ' H'' b Q' E' hb hq => qt σ' H'' _ b Q' E' hb hq) (fun σ' H'' y Q' E' hy hq => qe σ' H'' _ y Q' E' hy hq) fun H'' done' rest' s'' hD' hf' hl' hgo' hcat' => ?_
        exact ⟨s'', done', rest', hD', hf', by omega, hgo', by rw [hcat', hcat]⟩
      · rintro H' ⟨s', done, rest, hD, hf, hle, hgo, hcat⟩
        rw [List.drop_eq_nil_of_le (by rw [rx.length]; exact Nat.le_refl _)] at hgo
        cases hgo
        rw [List.append_nil] at hcat
        subst hcat
        exact q _ H' (s1.trans s') (.lst hD (rpA_of hf))
    · cases h9
end
end TT
set_option Elab.async false
set_option linter.all false
set_option maxRecDepth 100000
set_option maxHeartbeats 4000000
/-! A checked code is its expression's value. -/
namespace TT
open PySem PySem.Spec PyProof.Rows L2
/-- the readings that say nothing but the value -/
def tD (K : PySem.W.Frag) (f : Rho → Option D) : TE := fun σ H Q => ∃ ρ d, EnvR K H σ ρ ∧ f ρ = some d ∧ QOk K H d Q
def tDb (K : PySem.W.Frag) (f : Rho → Option Bool) : TT := fun σ H Q => ∃ ρ b, EnvR K H σ ρ ∧ f ρ = some b ∧ ∀ H', Same H H' → Q b H'
theorem DE.pe {X : Cx} {e : Expr} {f : Rho → Option D} (h : DE X e f) : PE X e (tD X.K f) := by
  obtain ⟨t, p, q⟩ := h
  exact ⟨fun pins s σ H Q I ⟨ρ, d, E, hf, hq⟩ => p.run pins s σ H Q I (q σ H ρ d Q E hf hq)⟩
theorem DTs.pt {X : Cx} {e : List Expr} {f : Rho → Option Bool} (h : DTs X e f) : PTs X e (tDb X.K f) := by
  obtain ⟨t, p, q⟩ := h
  exact ⟨fun pins s σ H Q I ⟨ρ, d, E, hf, hq⟩ => p.run pins s σ H Q I (q σ H ρ d Q E hf hq)⟩
def bltNames : List Str := ["len", "all", "isinstance", "max", "min", "int", "bool", "str", "tuple", "list", "sorted", "range"]
structure Cok (M : Sg) (k : Nat) (N : List Str) (sc : Scope) (X : Cx) : Prop where
  nn : X.N = N
  nd : N.Nodup
  esc : X.env.scope = sc
  calm : X.calm = true
  room : Room k X.A
  blt : ∀ x ∈ bltNames, X.mg x = none
  fns : ∀ f, FOk X k (fname f) (fps f) (M.cl f)
  gl : ∀ g : G, ∃ v u, X.mg (gname g) = some u ∧ RelV v u ∧ ∀ H, Rp X.K H v (gval g)
  lv : ∀ b : Bool, LvOk X k (if b then "_law_level_in" else "_law_level_out") (M.lv b)
/-- within a comprehension -/
theorem Cok.blk {M : Sg} {k : Nat} {N : List Str} {sc scope : Scope} {X : Cx} (ok : Cok M k N sc X) (s : Shared) (H : Hp) (Ca : Addr) (cl : List (Str × Addr)) (fp : List Addr) : Cok M k N (relS scope sc) (X.blk s H scope (compEnvC scope cl Ca X.env) fp) where
  nn := ok.nn
  nd := ok.nd
  esc := by
    obtain rfl := ok.esc
    rfl
  calm := ok.calm
  room := ok.room
  blt := ok.blt
  fns := fun f => ⟨(ok.fns f).ex⟩
  gl := ok.gl
  lv := fun b => ⟨(ok.lv b).ex⟩
section
variable {M : Sg} {k : Nat} {N : List Str} {sc : Scope} {X : Cx}
theorem glB_ok (ok : Cok M k N sc X) {x y : Str} (h : glB sc x y = true) : x = y ∧ Gl X y := by
  simp only [glB, Bool.and_eq_true, decide_eq_true_eq] at h
  refine ⟨h.1, ?_⟩
  show X.env.scope.names.lookup y = _
  rw [ok.esc, ← h.1]
  exact h.2
theorem chk_star {c : C} {a : Expr} {p : Pos} (h : chk N c sc (.e (.Starred a p)) = true) : False := by
  cases c <;> first | (unfold chk at h; cases h; done) | (rename_i b _; cases b <;> (unfold chk at h; cases h))
theorem star1 {c : C} {e : Expr} (h : chk N c sc (.e e) = true) (es : List Expr) (env : Env) : starEach (e :: es) env = (false, eval e env) :: starEach es env := by
  cases e <;> first | rfl | exact (chk_star h).elim
theorem starA : ∀ {c : C} {es : List Expr} (env : Env) (pos : Pos), chk N c sc (.l es) = true → (backTo pos (starEach es env)).any (·.1) = false
  | c, [], _, _, _ => rfl
  | c, e :: es, env, pos, h => by
    cases c <;> first | (unfold chk at h; cases h; done) | skip
    · rename_i a t
      unfold chk at h
      simp only [Bool.and_eq_true] at h
      rw [star1 h.1]
      show (false || (backTo pos (starEach es env)).any (·.1)) = false
      rw [Bool.false_or]
      exact starA env pos h.2
    · rename_i b _
      cases b <;> (unfold chk at h; cases h)
theorem starL {c : C} {e : Expr} {es : List Expr} {env : Env} {pos : Pos} (h : chk N c sc (.l (e :: es)) = true) : starEach (e :: es) env = (false, eval e env) :: starEach es env ∧ (backTo pos (starEach es env)).any (·.1) = false := by
  cases c with
  | cons a t =>
    unfold chk at h
    simp only [Bool.and_eq_true] at h
    exact ⟨star1 h.1 _ _, starA _ _ h.2⟩
  | b1 b a => cases b <;> (unfold chk at h; cases h)
  | _ => exact absurd h (by unfold chk; exact Bool.false_ne_true)
theorem plainIx_of {b : Expr} (h : plainB b = true) : PlainIx b := by
  cases b <;> first | (exact fun _ _ => rfl) | exact nomatch h
theorem idb {e : Str} (h : e ∈ bltNames) : (e == ("__debug__" : Str)) = false := by
  have : ∀ x ∈ bltNames, (x == ("__debug__" : Str)) = false := by decide +kernel
  exact this e h
theorem fdb : ∀ f : F, (fname f == ("__debug__" : Str)) = false := by
  intro f; cases f <;> decide +kernel
/-- the three readings of a code -/
structure Snd (M : Sg) (k : Nat) (N : List Str) (c : C) : Prop where
  e : ∀ (sc : Scope) (X : Cx) (ex : Expr), Cok M k N sc X → chk N c sc (.e ex) = true → DE X ex (ev M c)
  t : ∀ (sc : Scope) (X : Cx) (ex : Expr), Cok M k N sc X → tstB c = true → chk N c sc (.e ex) = true → DT X ex (fun ρ => (ev M c ρ).bind asB)
  a : ∀ (sc : Scope) (X : Cx) (es : List Expr), Cok M k N sc X → chk N c sc (.l es) = true → DA X es (fun ρ => (ev M c ρ).bind asT)
  w : ∀ (sc : Scope) (X : Cx) (op : BoolOp) (vs : List Expr) (pos : Pos), Cok M k N sc X → tstB c = true → chk N c sc (.e (.BoolOp op vs pos)) = true → DW X (.BoolOp op vs pos) (fun ρ => (ev M c ρ).bind asB)
theorem tv {c : C} (e : ∀ (sc : Scope) (X : Cx) (ex : Expr), Cok M k N sc X → chk N c sc (.e ex) = true → DE X ex (ev M c))
    (h : ∀ (sc : Scope) (ex : Expr) (env : Env), chk N c sc (.e ex) = true → ∀ whole, isTrue ex env whole = (do let v ← whole; standAt ex.pos; holding [v] (truthy v))) :
    ∀ (sc : Scope) (X : Cx) (ex : Expr), Cok M k N sc X → tstB c = true → chk N c sc (.e ex) = true → DT X ex (fun ρ => (ev M c ρ).bind asB) :=
  fun sc X ex ok _ hc => dt_val (e sc X ex ok hc) (h sc ex X.env hc)
theorem DA.congr {es : List Expr} {f g : Rho → Option (List D)} (h : DA X es f) (e : ∀ ρ, f ρ = g ρ) : DA X es g := by
  have : f = g := funext e
  rw [← this]; exact h
theorem DE.congr {es : Expr} {f g : Rho → Option D} (h : DE X es f) (e : ∀ ρ, f ρ = g ρ) : DE X es g := by
  have : f = g := funext e
  rw [← this]; exact h
theorem DT.congr {es : Expr} {f g : Rho → Option Bool} (h : DT X es f) (e : ∀ ρ, f ρ = g ρ) : DT X es g := by
  have : f = g := funext e
  rw [← this]; exact h
theorem noLst {c : C} (h : ∀ es, chk N c sc (.l es) = false) (P : Prop) {es : List Expr} (hc : chk N c sc (.l es) = true) : P := by
  rw [h es] at hc; exact nomatch hc
theorem bool_bind {a : Option D} {g : Bool → Option Bool} : ((a.bind asB).bind g) = a.bind fun x => (asB x).bind g := by cases a <;> rfl
theorem snd (M : Sg) (k : Nat) (N : List Str) (c : C) : Snd M k N c := by
  induction c with
  | var i =>
    have he : ∀ (sc : Scope) (X : Cx) (ex : Expr), Cok M k N sc X → chk N (.var i) sc (.e ex) = true → DE X ex (ev M (.var i)) := fun sc X ex ok h => by
      unfold chk at h
      split at h
      · rename_i x p heq
        cases heq
        simp only [Bool.and_eq_true, decide_eq_true_eq, visB, Bool.or_eq_true] at h
        obtain ⟨⟨⟨h1, h2⟩, h3⟩, h4⟩ := h
        refine de_var (by rw [ok.nn]; exact h1) ?_ h3 h4
        unfold Vis
        rw [ok.esc]
        rcases h2 with (h2 | h2) | h2
        · exact .inl h2
        · exact .inr (.inl h2)
        · exact .inr (.inr h2)
      · cases h
    refine ⟨he, tv he fun sc ex env h => ?_, fun sc X es ok h => (by unfold chk at h; cases h), fun sc X op vs pos ok ht h => (by unfold chk at h; cases h)⟩
    unfold chk at h
    split at h
    · rename_i heq
      cases heq
      exact fun _ => rfl
    · cases h
  | cst d =>
    have he : ∀ (sc : Scope) (X : Cx) (ex : Expr), Cok M k N sc X → chk N (.cst d) sc (.e ex) = true → DE X ex (ev M (.cst d)) := fun sc X ex ok h => by
      unfold chk at h
      split at h
      · rename_i heq
        cases heq
        exact de_cst h
      · cases h
    refine ⟨he, fun sc X ex ok ht => (by simp [tstB] at ht), fun sc X es ok h => (by unfold chk at h; cases h), fun sc X op vs pos ok ht h => (by unfold chk at h; cases h)⟩
  | glb g =>
    have he : ∀ (sc : Scope) (X : Cx) (ex : Expr), Cok M k N sc X → chk N (.glb g) sc (.e ex) = true → DE X ex (ev M (.glb g)) := fun sc X ex ok h => by
      unfold chk at h
      split at h
      · rename_i heq
        cases heq
        obtain ⟨e, hg⟩ := glB_ok ok h
        subst e
        obtain ⟨v, u, h1, h2, h3⟩ := ok.gl g
        exact ⟨_, pe_glob hg h1 h2 (by cases g <;> decide +kernel), fun σ H ρ d Q E hd q => by cases hd; exact q v H (Same.refl H) (h3 H)⟩
      · cases h
    refine ⟨he, tv he fun sc ex env h => ?_, fun sc X es ok h => (by unfold chk at h; cases h), fun sc X op vs pos ok ht h => (by unfold chk at h; cases h)⟩
    unfold chk at h
    split at h
    · rename_i heq
      cases heq
      exact fun _ => rfl
    · cases h
  | nil =>
    refine ⟨fun sc X ex ok h => (by unfold chk at h; cases h), fun sc X ex ok ht => (by simp [tstB] at ht), fun sc X es ok h => ?_, fun sc X op vs pos ok ht h => (by unfold chk at h; cases h)⟩
    unfold chk at h
    split at h
    · rename_i heq
      cases heq
      exact da_nil.congr fun ρ => rfl
    · cases h
  | cons a t iha iht =>
    refine ⟨fun sc X ex ok h => (by unfold chk at h; cases h), fun sc X ex ok ht => (by simp [tstB] at ht), fun sc X es ok h => ?_, fun sc X op vs pos ok ht h => (by unfold chk at h; cases h)⟩
    unfold chk at h
    split at h
    · rename_i heq
      cases heq
      simp only [Bool.and_eq_true] at h
      refine (da_cons (iha.e sc X _ ok h.1) (iht.a sc X _ ok h.2) (star1 h.1 _ _)).congr fun ρ => ?_
      rw [ev]
      cases ev M a ρ with
      | none => rfl
      | some x =>
        cases ev M t ρ with
        | none => rfl
        | some y =>
          show ((asT y).bind fun ys => some (x :: ys)) = ((asT y).bind fun ys => some (PyData.tuple (x :: ys))).bind asT
          cases asT y <;> rfl
    · cases h
  | tup c ih =>
    refine ⟨fun sc X ex ok h => ?_, fun sc X ex ok ht => (by simp [tstB] at ht), fun sc X es ok h => (by unfold chk at h; cases h), fun sc X op vs pos ok ht h => (by unfold chk at h; cases h)⟩
    unfold chk at h
    split at h
    · rename_i heq
      cases heq
      refine (de_tup (ih.a sc X _ ok h)).congr fun ρ => ?_
      rw [ev, Option.bind_assoc]
    · cases h
  | lst c ih =>
    refine ⟨fun sc X ex ok h => ?_, fun sc X ex ok ht => (by simp [tstB] at ht), fun sc X es ok h => (by unfold chk at h; cases h), fun sc X op vs pos ok ht h => (by unfold chk at h; cases h)⟩
    unfold chk at h
    split at h
    · rename_i heq
      cases heq
      refine (de_lst (ih.a sc X _ ok h)).congr fun ρ => ?_
      rw [ev, Option.bind_assoc]
    · cases h
  | call f c ih =>
    have he : ∀ (sc : Scope) (X : Cx) (ex : Expr), Cok M k N sc X → chk N (.call f c) sc (.e ex) = true → DE X ex (ev M (.call f c)) := fun sc X ex ok h => by
      unfold chk at h
      split at h
      · rename_i heq
        cases heq
        simp only [Bool.and_eq_true] at h
        obtain ⟨e, hg⟩ := glB_ok ok h.1
        subst e
        have h2 := h.2
        refine (de_call (ok.fns f) ok.room hg (ih.a sc X _ ok h2) (fdb f) (starL (pos := ⟨0, 0, 0, 0⟩) h2).1 (starL h2).2).congr fun ρ => ?_
        rw [ev, Option.bind_assoc]
      · cases h
    refine ⟨he, tv he fun sc ex env h => ?_, fun sc X es ok h => (by unfold chk at h; cases h), fun sc X op vs pos ok ht h => (by unfold chk at h; cases h)⟩
    unfold chk at h
    split at h
    · rename_i heq
      cases heq
      exact fun _ => rfl
    · cases h
  | b1 b a ih =>
    have he : ∀ (sc : Scope) (X : Cx) (ex : Expr), Cok M k N sc X → chk N (.b1 b a) sc (.e ex) = true → DE X ex (ev M (.b1 b a)) := fun sc X ex ok h => by
      unfold chk at h
      cases b with
      | len =>
        dsimp only at h
        split at h
        · rename_i heq
          cases heq
          simp only [Bool.and_eq_true] at h
          obtain ⟨e, hg⟩ := glB_ok ok h.1
          subst e
          exact de_len (ih.e sc X _ ok h.2) hg (ok.blt _ (by decide +kernel)) (star1 h.2 _ _)
        · cases h
      | all =>
        dsimp only at h
        split at h
        · rename_i heq
          cases heq
          simp only [Bool.and_eq_true] at h
          obtain ⟨e, hg⟩ := glB_ok ok h.1
          subst e
          exact de_all ok.calm (ih.e sc X _ ok h.2) hg (ok.blt _ (by decide +kernel)) (star1 h.2 _ _)
        · cases h
      | sorted =>
        dsimp only at h
        split at h
        · rename_i heq
          cases heq
          simp only [Bool.and_eq_true] at h
          obtain ⟨e, hg⟩ := glB_ok ok h.1
          subst e
          exact de_sorted (ih.e sc X _ ok h.2) hg (ok.blt _ (by decide +kernel)) (star1 h.2 _ _)
        · cases h
      | isi t =>
        dsimp only at h
        split at h
        · rename_i heq
          cases heq
          simp only [Bool.and_eq_true] at h
          obtain ⟨e, hg⟩ := glB_ok ok h.1.1
          subst e
          obtain ⟨e, hg2⟩ := glB_ok ok h.1.2
          subst e
          exact de_isi (ih.e sc X _ ok h.2) hg (ok.blt _ (by decide +kernel)) hg2 (ok.blt _ (by cases t <;> decide +kernel)) (star1 h.2 _ _)
        · cases h
    refine ⟨he, tv he fun sc ex env h => ?_, fun sc X es ok h => (by cases b <;> (unfold chk at h; cases h)), fun sc X op vs pos ok ht h => (by cases b <;> (unfold chk at h; cases h))⟩
    unfold chk at h
    cases b with
    | len =>
      dsimp only at h
      split at h
      · rename_i heq
        cases heq
        exact fun _ => rfl
      · cases h
    | all =>
      dsimp only at h
      split at h
      · rename_i heq
        cases heq
        exact fun _ => rfl
      · cases h
    | sorted =>
      dsimp only at h
      split at h
      · rename_i heq
        cases heq
        exact fun _ => rfl
      · cases h
    | isi t =>
      dsimp only at h
      split at h
      · rename_i heq
        cases heq
        exact fun _ => rfl
      · cases h
  | b2 b a c iha ihc =>
    have hu : ∀ {sc : Scope} {X : Cx}, Cok M k N sc X → X.A.units + 64 < cLine := fun ok => ok.room.units
    have he : ∀ (sc : Scope) (X : Cx) (ex : Expr), Cok M k N sc X → chk N (.b2 b a c) sc (.e ex) = true → DE X ex (ev M (.b2 b a c)) := fun sc X ex ok h => by
      unfold chk at h
      split at h
      · rename_i heq
        cases heq
        simp only [Bool.and_eq_true, decide_eq_true_eq] at h
        obtain ⟨⟨h1, h2⟩, h3⟩ := h
        obtain ⟨r, ho, hr⟩ := o2D (X := X) h1
        exact de_bin (iha.e sc X _ ok h2) (ihc.e sc X _ ok h3) (fun ta tb pa pb => pe_op ho pa pb) hr
      · rename_i heq
        cases heq
        simp only [Bool.and_eq_true, decide_eq_true_eq] at h
        obtain ⟨⟨⟨h1, h0⟩, h2⟩, h3⟩ := h
        obtain ⟨r, ho, hr⟩ := c2D (X := X) h1 (hu ok)
        exact de_bin (iha.e sc X _ ok h2) (ihc.e sc X _ ok h3) (fun ta tb pa pb => pe_cmpR ho pa pb (noMarkOf _ _ h0)) hr
      · rename_i heq
        cases heq
        simp only [Bool.and_eq_true, decide_eq_true_eq] at h
        obtain ⟨⟨⟨h1, h0⟩, h2⟩, h3⟩ := h
        subst h1
        exact de_ix (iha.e sc X _ ok h2) (ihc.e sc X _ ok h3) (plainIx_of h0)
      · rename_i heq
        cases heq
        simp only [Bool.and_eq_true] at h
        obtain ⟨⟨h1, h2⟩, h3⟩ := h
        split at h1
        · rename_i g hg
          obtain ⟨e, hgl⟩ := glB_ok ok h1
          subst e
          exact de_mm hg ok.calm (iha.e sc X _ ok h2) (ihc.e sc X _ ok h3) hgl (ok.blt _ (by cases b <;> first | (simp [f2] at hg; done) | (cases hg; decide +kernel))) (star1 h2 _ _) (star1 h3 _ _)
        · cases h1
      · cases h
    refine ⟨he, fun sc X ex ok ht h => ?_, fun sc X es ok h => (by unfold chk at h; cases h), fun sc X op vs pos ok ht h => (by unfold chk at h; cases h)⟩
    have h' := h
    unfold chk at h
    split at h
    · exfalso
      rename_i heq
      cases heq
      simp only [Bool.and_eq_true, decide_eq_true_eq] at h
      obtain ⟨⟨h1, h2⟩, h3⟩ := h
      cases b <;> first | (simp [o2] at h1; done) | (simp [tstB, c2] at ht; done)
    · rename_i heq
      cases heq
      simp only [Bool.and_eq_true, decide_eq_true_eq] at h
      obtain ⟨⟨⟨h1, h0⟩, h2⟩, h3⟩ := h
      obtain ⟨r, ho, hr⟩ := c2D (X := X) h1 (hu ok)
      exact dt_bin (iha.e sc X _ ok h2) (ihc.e sc X _ ok h3) (fun ta tb pa pb => pt_cmpR ho pa pb (noMarkOf _ _ h0)) hr
    · rename_i heq
      cases heq
      exact dt_val (he sc X _ ok h') fun _ => rfl
    · rename_i heq
      cases heq
      exact dt_val (he sc X _ ok h') fun _ => rfl
    · cases h
  | chain a b c iha ihb ihc =>
    have he : ∀ (sc : Scope) (X : Cx) (ex : Expr), Cok M k N sc X → chk N (.chain a b c) sc (.e ex) = true → DE X ex (ev M (.chain a b c)) := fun sc X ex ok h => by
      unfold chk at h
      split at h
      · rename_i heq
        cases heq
        simp only [Bool.and_eq_true] at h
        exact de_chain (iha.e sc X _ ok h.1.1) (ihb.e sc X _ ok h.1.2) (ihc.e sc X _ ok h.2)
      · cases h
    exact ⟨he, fun sc X ex ok ht => (by simp [tstB] at ht), fun sc X es ok h => (by unfold chk at h; cases h), fun sc X op vs pos ok ht h => (by unfold chk at h; cases h)⟩
  | neg a ih =>
    refine ⟨fun sc X ex ok h => ?_, fun sc X ex ok ht => (by simp [tstB] at ht), fun sc X es ok h => (by unfold chk at h; cases h), fun sc X op vs pos ok ht h => (by unfold chk at h; cases h)⟩
    unfold chk at h
    split at h
    · rename_i heq
      cases heq
      exact de_neg (ih.e sc X _ ok h)
    · cases h
  | isN a ih =>
    refine ⟨fun sc X ex ok h => ?_, fun sc X ex ok ht h => ?_, fun sc X es ok h => (by unfold chk at h; cases h), fun sc X op vs pos ok ht h => (by unfold chk at h; cases h)⟩
    · unfold chk at h
      split at h
      · rename_i heq
        cases heq
        exact de_isN (ih.e sc X _ ok h)
      · cases h
    · unfold chk at h
      split at h
      · rename_i heq
        cases heq
        exact dt_isN (ih.e sc X _ ok h)
      · cases h
  | notN a ih =>
    refine ⟨fun sc X ex ok h => ?_, fun sc X ex ok ht h => ?_, fun sc X es ok h => (by unfold chk at h; cases h), fun sc X op vs pos ok ht h => (by unfold chk at h; cases h)⟩
    · unfold chk at h
      split at h
      · rename_i heq
        cases heq
        exact de_notN (ih.e sc X _ ok h)
      · cases h
    · unfold chk at h
      split at h
      · rename_i heq
        cases heq
        exact dt_notN (ih.e sc X _ ok h)
      · cases h
  | and a b iha ihb =>
    have hw : ∀ (sc : Scope) (X : Cx) (op : BoolOp) (vs : List Expr) (pos : Pos), Cok M k N sc X → tstB (.and a b) = true → chk N (.and a b) sc (.e (.BoolOp op vs pos)) = true → DW X (.BoolOp op vs pos) (fun ρ => (ev M (.and a b) ρ).bind asB) := fun sc X op vs pos ok ht h => by
      unfold chk at h
      split at h
      · rename_i x y r pos heq
        cases heq
        simp only [Bool.and_eq_true] at h
        simp only [tstB, Bool.and_eq_true] at ht
        have e : (fun ρ => (ev M (.and a b) ρ).bind asB) = fun ρ => ((ev M a ρ).bind asB).bind fun k => if k then (ev M b ρ).bind asB else some false := funext fun ρ => by
          rw [ev, bool_bind, Option.bind_assoc]
          congr 1
          funext z
          cases asB z with
          | none => rfl
          | some k => cases k <;> rfl
        rw [e]
        cases r with
        | nil => exact dw_and (iha.t sc X _ ok ht.1 h.1) (dw_and1 (ihb.t sc X _ ok ht.2 h.2))
        | cons z s => exact dw_and (iha.t sc X _ ok ht.1 h.1) (ihb.w sc X _ _ _ ok ht.2 h.2)
      · cases h
    refine ⟨fun sc X ex ok h => ?_, fun sc X ex ok ht h => ?_, fun sc X es ok h => (by unfold chk at h; cases h), hw⟩
    · unfold chk at h
      split at h
      · rename_i x y r pos heq
        cases heq
        simp only [Bool.and_eq_true] at h
        cases r with
        | nil => exact de_and (iha.e sc X _ ok h.1) (de_one (ihb.e sc X _ ok h.2))
        | cons z s => exact de_and (iha.e sc X _ ok h.1) (ihb.e sc X _ ok h.2)
      · cases h
    · have h' := h
      unfold chk at h
      split at h
      · rename_i heq
        cases heq
        exact (hw sc X _ _ _ ok ht h').dt
      · cases h
  | or a b iha ihb =>
    have hw : ∀ (sc : Scope) (X : Cx) (op : BoolOp) (vs : List Expr) (pos : Pos), Cok M k N sc X → tstB (.or a b) = true → chk N (.or a b) sc (.e (.BoolOp op vs pos)) = true → DW X (.BoolOp op vs pos) (fun ρ => (ev M (.or a b) ρ).bind asB) := fun sc X op vs pos ok ht h => by
      unfold chk at h
      split at h
      · rename_i x y r pos heq
        cases heq
        simp only [Bool.and_eq_true] at h
        simp only [tstB, Bool.and_eq_true] at ht
        have e : (fun ρ => (ev M (.or a b) ρ).bind asB) = fun ρ => ((ev M a ρ).bind asB).bind fun k => if k then some true else (ev M b ρ).bind asB := funext fun ρ => by
          rw [ev, bool_bind, Option.bind_assoc]
          congr 1
          funext z
          cases asB z with
          | none => rfl
          | some k => cases k <;> rfl
        rw [e]
        cases r with
        | nil => exact dw_or (iha.t sc X _ ok ht.1 h.1) (dw_or1 (ihb.t sc X _ ok ht.2 h.2))
        | cons z s => exact dw_or (iha.t sc X _ ok ht.1 h.1) (ihb.w sc X _ _ _ ok ht.2 h.2)
      · cases h
    refine ⟨fun sc X ex ok h => ?_, fun sc X ex ok ht h => ?_, fun sc X es ok h => (by unfold chk at h; cases h), hw⟩
    · unfold chk at h
      split at h
      · rename_i x y r pos heq
        cases heq
        simp only [Bool.and_eq_true] at h
        cases r with
        | nil => exact de_or (iha.e sc X _ ok h.1) (de_one (ihb.e sc X _ ok h.2))
        | cons z s => exact de_or (iha.e sc X _ ok h.1) (ihb.e sc X _ ok h.2)
      · cases h
    · have h' := h
      unfold chk at h
      split at h
      · rename_i heq
        cases heq
        exact (hw sc X _ _ _ ok ht h').dt
      · cases h
  | not a ih =>
    refine ⟨fun sc X ex ok h => ?_, fun sc X ex ok ht h => ?_, fun sc X es ok h => (by unfold chk at h; cases h), fun sc X op vs pos ok ht h => (by unfold chk at h; cases h)⟩
    · unfold chk at h
      split at h
      · rename_i heq
        cases heq
        exact de_not (ih.e sc X _ ok h)
      · cases h
    · unfold chk at h
      split at h
      · rename_i heq
        cases heq
        refine (dt_not (ih.t sc X _ ok (by unfold tstB at ht; exact ht) h)).congr fun ρ => ?_
        rw [ev, bool_bind, Option.bind_assoc]
        congr 1
        funext z
        cases asB z <;> rfl
      · cases h
  | ite c a b ihc iha ihb =>
    refine ⟨fun sc X ex ok h => ?_, fun sc X ex ok ht => (by simp [tstB] at ht), fun sc X es ok h => (by unfold chk at h; cases h), fun sc X op vs pos ok ht h => (by unfold chk at h; cases h)⟩
    unfold chk at h
    split at h
    · rename_i heq
      cases heq
      simp only [Bool.and_eq_true] at h
      refine (de_ite (ihc.t sc X _ ok h.1.1.1 h.1.1.2) (iha.e sc X _ ok h.1.2) (ihb.e sc X _ ok h.2)).congr fun ρ => ?_
      rw [ev, Option.bind_assoc]
    · cases h
  | slc a lo hi iha ihl ihh =>
    refine ⟨fun sc X ex ok h => ?_, fun sc X ex ok ht => (by simp [tstB] at ht), fun sc X es ok h => (by unfold chk at h; cases h), fun sc X op vs pos ok ht h => (by unfold chk at h; cases h)⟩
    unfold chk at h
    split at h
    · rename_i x l u p pos heq
      cases heq
      simp only [Bool.and_eq_true] at h
      obtain ⟨⟨h1, h2⟩, h3⟩ := h
      have part : ∀ (c : C) (o : Option Expr), Snd M k N c → (if isNil c then o.isNone else match o with | none => false | some l => chk N c sc (.e l)) = true → DO X o (fun ρ => if isNil c then some none else (ev M c ρ).bind fun l => (asI l).bind fun i => some (some i)) := fun c o ih hc => by
        cases hn : isNil c with
        | true =>
          rw [hn] at hc
          cases o with
          | none => exact do_none
          | some l => exact nomatch hc
        | false =>
          rw [hn] at hc
          cases o with
          | none => exact nomatch hc
          | some l => exact do_some (ih.e sc X _ ok hc)
      exact de_slc (iha.e sc X _ ok h1) (part lo l ihl h2) (part hi u ihh h3)
    · cases h
  | rng a b iha ihb =>
    refine ⟨fun sc X ex ok h => ?_, fun sc X ex ok ht => (by simp [tstB] at ht), fun sc X es ok h => (by unfold chk at h; cases h), fun sc X op vs pos ok ht h => (by unfold chk at h; cases h)⟩
    unfold chk at h
    split at h
    · rename_i heq
      cases heq
      simp only [Bool.and_eq_true] at h
      obtain ⟨⟨⟨h1, h2⟩, h3⟩, h4⟩ := h
      obtain ⟨e, g1⟩ := glB_ok ok h1
      subst e
      obtain ⟨e, g2⟩ := glB_ok ok h2
      subst e
      exact de_rng ok.calm (iha.e sc X _ ok h3) (ihb.e sc X _ ok h4) g1 g2 (ok.blt _ (by decide +kernel)) (ok.blt _ (by decide +kernel)) (star1 h3 _ _) (star1 h4 _ _)
    · cases h
  | rev a ih =>
    refine ⟨fun sc X ex ok h => ?_, fun sc X ex ok ht => (by simp [tstB] at ht), fun sc X es ok h => (by unfold chk at h; cases h), fun sc X op vs pos ok ht h => (by unfold chk at h; cases h)⟩
    unfold chk at h
    split at h
    · rename_i heq
      cases heq
      exact de_rev (ih.e sc X _ ok h)
    · cases h
  | comp l i src cond elt ihs ihc ihe =>
    refine ⟨fun sc X ex ok h => ?_, fun sc X ex ok ht => (by simp [tstB] at ht), fun sc X es ok h => (by unfold chk at h; cases h), fun sc X op vs pos ok ht h => (by unfold chk at h; cases h)⟩
    unfold chk at h
    split at h
    · rename_i el t tp it ifs scope pos heq
      cases heq
      simp only [Bool.and_eq_true, decide_eq_true_eq] at h
      obtain ⟨⟨⟨⟨⟨⟨h1, h2⟩, h3⟩, h4⟩, h5⟩, h6⟩, h7⟩ := h
      obtain rfl := ok.nn
      obtain rfl := ok.esc
      refine de_comp (l := l) (fc := fun ρ => if isNil cond then some true else (ev M cond ρ).bind asB) (fe := ev M elt) ok.calm ok.nd h1 (blkOk_by h2) h4 (ihs.e _ X _ ok h5) h3
        ⟨tDb X.K (fun ρ => if isNil cond then some true else (ev M cond ρ).bind asB), fun s H Ca cl fp => ⟨?_, fun σ H ρ b Q E hb hq => ⟨ρ, b, E, hb, hq⟩⟩⟩ ⟨tD X.K (ev M elt), fun s H Ca cl fp => ⟨?_, fun σ H ρ d Q E hd hq => ⟨ρ, d, E, hd, hq⟩⟩⟩
      · refine DTs.pt (X := X.blk s H scope (compEnvC scope cl Ca X.env) fp) ?_
        cases hn : isNil cond with
        | true =>
          rw [hn] at h7
          cases ifs with
          | nil => exact dts_nil
          | cons _ _ => exact nomatch h7
        | false =>
          rw [hn] at h7
          cases ifs with
          | nil => exact nomatch h7
          | cons c r =>
            cases r with
            | nil =>
              have h7' : (tstB cond && chk X.N cond (relS scope X.env.scope) (.e c)) = true := h7
              simp only [Bool.and_eq_true] at h7'
              exact dts_one (ihc.t _ _ _ (ok.blk s H Ca cl fp) h7'.1 h7'.2)
            | cons _ _ => exact nomatch h7
      · exact DE.pe (X := X.blk s H scope (compEnvC scope cl Ca X.env) fp) (ihe.e _ _ _ (ok.blk s H Ca cl fp) h6)
    · cases h
  | lvl b a c iha ihc =>
    refine ⟨fun sc X ex ok h => ?_, fun sc X ex ok ht => (by simp [tstB] at ht), fun sc X es ok h => (by unfold chk at h; cases h), fun sc X op vs pos ok ht h => (by unfold chk at h; cases h)⟩
    unfold chk at h
    split at h
    · rename_i heq
      cases heq
      simp only [Bool.and_eq_true] at h
      obtain ⟨⟨⟨⟨h1, h2⟩, h3⟩, h4⟩, h5⟩ := h
      obtain ⟨e, g1⟩ := glB_ok ok h1
      subst e
      obtain ⟨e, g2⟩ := glB_ok ok h2
      subst e
      obtain ⟨e, g3⟩ := glB_ok ok h3
      subst e
      exact de_lvl (ok.lv b) ok.room g3 g2 g1 (iha.e sc X _ ok h4) (ihc.e sc X _ ok h5) (by cases b <;> decide +kernel) (star1 h4 _ _) (star1 h5 _ _)
    · cases h
end
end TT
set_option Elab.async false
set_option linter.all false
set_option maxRecDepth 100000
set_option maxHeartbeats 4000000
/-! A checked block is what its code does. -/
namespace TT
open PySem PySem.Spec PyProof.Rows L2
def ROk (K : PySem.W.Frag) (H : Hp) (D : Ends) : R → Prop
  | .nx ρ => ∀ σ H', Same H H' → EnvR K H' σ ρ → D.nx σ H'
  | .rt d => QOk K H d D.rt
theorem ROk.mono {K : PySem.W.Frag} {H H' : Hp} {D : Ends} (s : Same H H') : ∀ {r : R}, ROk K H D r → ROk K H' D r
  | .nx _, h => fun σ H'' s' E => h σ H'' (s.trans s') E
  | .rt _, h => fun v H'' s' r => h v H'' (s.trans s') r
def DS (X : Cx) (ss : List Stmt) (f : Rho → Option R) : Prop := ∃ t : TS, PSs X ss t ∧ ∀ (D : Ends) (σ : L2.St) (H : Hp) (ρ : Rho) (r : R), EnvR X.K H σ ρ → f ρ = some r → ROk X.K H D r → t D σ H
structure Sok (M : Sg) (k : Nat) (N : List Str) (sc : Scope) (X : Cx) : Prop extends Cok M k N sc X where
  fn : ∀ x, X.fn x = true
  pas : PassesOwn (model X.prog X.w) X.A X.env X.xe
section
variable {M : Sg} {k : Nat} {N : List Str} {sc : Scope} {X : Cx}
theorem noComp_sw {e : Expr} (h : noComp e = true) (tg : Option Expr) (l : Nat) (env : Env) : swapsWith e tg l env = pure false := by
  cases e <;> first | rfl | exact nomatch h
theorem loc_ok (ok : Cok M k N sc X) {x : Str} (h : locB sc x = true) : Loc X.env.scope x := by
  simp only [locB, Bool.or_eq_true, decide_eq_true_eq] at h
  rw [ok.esc]
  exact h
/-- the targets of an unpacking -/
def gNames : List Nat → TGs
  | [] => gNil
  | i :: is => gCons (gName i) (gNames is)
theorem pgs_names (ok : Sok M k N sc X) : ∀ {is : List Nat} {ts : List Expr}, chkTs N sc is ts = true → PGs X ts (gNames is) ∧ (assignEach ts X.env).length = is.length ∧ (assignEach ts X.env).findIdx? (·.1) = none
  | [], [], _ => ⟨pgs_nil, rfl, rfl⟩
  | [], _ :: _, h => nomatch h
  | _ :: _, [], h => nomatch h
  | i :: is, t :: ts, h => by
    unfold chkTs at h
    split at h
    · rename_i heq1 heq2
      cases heq1
    · rename_i heq1 heq2
      cases heq1
      cases heq2
      simp only [Bool.and_eq_true, decide_eq_true_eq] at h
      obtain ⟨⟨h1, h2⟩, h3⟩ := h
      obtain ⟨p, l, f⟩ := pgs_names ok h3
      refine ⟨pgs_cons (pg_name (i := i) (by rw [ok.nn]; exact ok.nd) (by rw [ok.nn]; exact h1) (loc_ok ok.toCok h2) (.inl (ok.fn _))) p, congrArg (· + 1) l, ?_⟩
      show List.findIdx? (·.1) ((false, _) :: assignEach _ X.env) = none
      rw [List.findIdx?_cons, f]
      rfl
    · cases h
theorem gNames_go {K : PySem.W.Frag} {H : Hp} : ∀ {is : List Nat} {vs : List V} {ds : List D} {σ : L2.St} {ρ ρ' : Rho} {Q : L2.St → Hp → Prop}, RpA K H vs ds → EnvR K H σ ρ → setL ρ is ds = some ρ' → (∀ σ', EnvR K H σ' ρ' → Q σ' H) → gNames is vs σ H Q
  | [], _, [], _, _, _, _, .nil, E, h, q => by cases h; exact ⟨rfl, q _ E⟩
  | [], _, _ :: _, _, _, _, _, _, _, h, _ => nomatch h
  | _ :: _, _, [], _, _, _, _, _, _, h, _ => nomatch h
  | i :: is, _, d :: ds, σ, ρ, ρ', Q, .cons r rs, E, h, q => ⟨_, _, rfl, gNames_go (is := is) rs (E.set r) h q⟩
theorem setL_len : ∀ {is : List Nat} {ds : List D} {ρ ρ' : Rho}, setL ρ is ds = some ρ' → ds.length = is.length
  | [], [], _, _, _ => rfl
  | [], _ :: _, _, _, h => nomatch h
  | _ :: _, [], _, _, h => nomatch h
  | _ :: is, _ :: ds, _, _, h => congrArg (· + 1) (setL_len (is := is) (ds := ds) h)
theorem fm_lt {f : Expr → Option Str} (hf : ∀ x p, sc.names.lookup x ≠ some .local → f (.Name x p) = none) : ∀ {ts : List Expr}, ts.any (fun t => match t with | .Name x _ => decide (sc.names.lookup x ≠ some .local) | _ => false) = true → (ts.filterMap f).length < ts.length
  | [], h => by simp at h
  | t :: r, h => by
    rw [List.any_cons, Bool.or_eq_true] at h
    rcases h with h | h
    · cases t <;> first | (simp at h; done) | skip
      rename_i x px
      have hx : sc.names.lookup x ≠ some .local := by simpa using h
      rw [List.filterMap_cons_none (hf x px hx)]
      exact Nat.lt_succ_of_le (List.length_filterMap_le _ _)
    · rw [List.filterMap_cons]
      split
      · exact Nat.lt_succ_of_lt (fm_lt hf h)
      · exact Nat.succ_lt_succ (fm_lt hf h)
theorem fm2 {f : Expr → Option Str} {a b : Expr} {x y : Str} (h1 : f a = some x) (h2 : f b = some y) : [a, b].filterMap f = [x, y] := by
  rw [List.filterMap_cons_some h1, List.filterMap_cons_some h2, List.filterMap_nil]
theorem noSwap_ok (ok : Cok M k N sc X) (hk : X.env.blockKind = .function) {ts : List Expr} {v : Expr} {n : Nat} {p : Pos} (h : noSwap sc ts v = true) : swappedStores [.Tuple ts n p] v X.env = pure none := by
  cases v <;> first | rfl | skip
  rename_i vs n2 p2
  have h1 : ts.any (fun t => match t with | .Name x _ => decide (sc.names.lookup x ≠ some .local) | _ => false) = true := h
  unfold swappedStores
  dsimp only
  split
  · rfl
  · split
    · rfl
    · rw [if_pos]
      simp only [Bool.or_eq_true, bne_iff_ne, ne_eq]
      refine .inl (Nat.ne_of_lt (fm_lt (sc := sc) (fun x p hx => ?_) h1))
      have hk : (X.env.kindOf x == some .local) = false := by
        rw [beq_eq_false_iff_ne]
        show X.env.scope.names.lookup x ≠ _
        rw [ok.esc]
        exact hx
      dsimp only
      rw [hk]
      rfl
theorem par_ok (ok : Cok M k N sc X) (hk : X.env.blockKind = .function) {x y : Str} {px py p p2 : Pos} {a b : Expr} {n n2 : Nat} (hl : px.line = py.line) (hxy : x ≠ y) (hx : sc.names.lookup x = some .local) (hy : sc.names.lookup y = some .local) (ha : noStarB a = true) (hb : noStarB b = true)
    (hf : [a, b].all (foldedForSure 8) = false) (hc : [a, b].all (constantsAlone 8) = false) : swappedStores [.Tuple [.Name x px, .Name y py] n p] (.Tuple [a, b] n2 p2) X.env = pure (some [x, y]) := by
  have kx : (X.env.kindOf x == some .local) = true := by
    show (X.env.scope.names.lookup x == _) = true
    rw [ok.esc, hx]; rfl
  have ky : (X.env.kindOf y == some .local) = true := by
    show (X.env.scope.names.lookup y == _) = true
    rw [ok.esc, hy]; rfl
  have hs : ∀ f : Expr → Bool, (∀ e, noStarB e = true → f e = false) → [a, b].any f = false := fun f h => by
    rw [List.any_cons, List.any_cons, List.any_nil, h a ha, h b hb]
    rfl
  have hxy' : (y == x) = false := beq_eq_false_iff_ne.mpr (Ne.symm hxy)
  have hl' : (py.line == px.line) = true := by rw [hl]; exact beq_self_eq_true _
  have e2 : ([x, y].eraseDups).length = 2 := by
    rw [List.eraseDups_cons, List.filter_cons, List.filter_nil, hxy']
    rfl
  have e3 : ([x, y].length != [(.Name x px : Expr), .Name y py].length || [x, y].eraseDups.length != [x, y].length) = false := by
    rw [e2]; rfl
  unfold swappedStores
  dsimp only
  rw [hk, if_neg (by simp), hs _ (fun e he => by cases e <;> first | rfl | cases he), if_neg Bool.false_ne_true, fm2 (x := x) (y := y), e3, if_neg Bool.false_ne_true, hf, if_neg Bool.false_ne_true, hc, if_neg Bool.false_ne_true]
  · show (if (X.env.kindOf x == some .local && px.line == px.line) = true then some x else none) = some x
    rw [kx, beq_self_eq_true]
    rfl
  · show (if (X.env.kindOf y == some .local && py.line == px.line) = true then some y else none) = some y
    rw [ky, hl']
    rfl
theorem noComp_sw1 {e : Expr} (h : noComp e = true) (tg : Expr) (l : Nat) (env : Env) : swapsWithSole [tg] e l env = pure false := noComp_sw h (some tg) l env
theorem dsnd_while {c : Expr} {body : List Stmt} {fc : Rho → Option Bool} {fb : Rho → Option R} {pos : Pos} (hp : PassesOwn (model X.prog X.w) X.A X.env X.xe) (hc : DT X c fc) (hb : DS X body fb) :
    ∃ t : TS, PS X (.While c body [] pos) t ∧ ∀ (D : Ends) (σ : L2.St) (H : Hp) (ρ : Rho) (n : Nat) (r : R), EnvR X.K H σ ρ → whileGo fc fb n ρ = some r → ROk X.K H D r → t D σ H := by
  obtain ⟨tc, pc, qc⟩ := hc
  obtain ⟨tb, pb, qb⟩ := hb
  refine ⟨_, ps_while hp pc pb, fun D σ H ρ n r E h q => ?_⟩
  refine ⟨fun n σ' H' => ∃ ρ', EnvR X.K H' σ' ρ' ∧ Same H H' ∧ whileGo fc fb n ρ' = some r, ⟨n, ρ, E, Same.refl H, h⟩, ?_⟩
  rintro n' σ' H' ⟨ρ', E', s', h'⟩
  cases n' with
  | zero => cases h'
  | succ m =>
    obtain ⟨b, hb, h2⟩ := bind_some (show (fc ρ').bind _ = some r from h')
    refine qc σ' H' ρ' b _ E' hb fun H1 s1 => ?_
    cases b with
    | false =>
      cases h2
      exact iteF (q σ' H1 (s'.trans s1) (E'.mono s1))
    | true =>
      obtain ⟨r1, hr1, h3⟩ := bind_some (show (fb ρ').bind _ = some r from h2)
      refine iteT ⟨fun σ2 H2 => ∃ ρ2, EnvR X.K H2 σ2 ρ2 ∧ Same H H2 ∧ whileGo fc fb m ρ2 = some r, fun σ2 H2 w => ⟨m, Nat.lt_succ_self m, w⟩, ?_⟩
      refine qb _ σ' H1 ρ' r1 (E'.mono s1) hr1 ?_
      cases r1 with
      | nx ρ2 => exact fun σ2 H2 s2 E2 => ⟨ρ2, E2, s'.trans (s1.trans s2), h3⟩
      | rt d =>
        cases h3
        exact fun v H2 s2 r2 => q v H2 (s'.trans (s1.trans s2)) r2
theorem dsnd_for {i : Nat} {x : Str} {px pos : Pos} {e : Expr} {body : List Stmt} {fe : Rho → Option D} {fb : Rho → Option R} (hp : PassesOwn (model X.prog X.w) X.A X.env X.xe) (hc : X.calm = true) (hN : X.N.Nodup) (hi : X.N[i]? = some x) (hx : Loc X.env.scope x) (hf : X.fn x = true) (hset : noSet e = true) (he : DE X e fe) (hb : DS X body fb) :
    ∃ t : TS, PS X (.For (.Name x px) e body [] pos) t ∧ ∀ (D : Ends) (σ : L2.St) (H : Hp) (ρ : Rho) (r : R), EnvR X.K H σ ρ → ((fe ρ).bind fun d => (asL d).bind fun ds => forGo i fb ds ρ) = some r → ROk X.K H D r → t D σ H := by
  obtain ⟨te, pe, qe⟩ := he
  obtain ⟨tb, pb, qb⟩ := hb
  have hfs : ∀ z, foldedSetIterable e X.env z = pure z := fun z => by
    cases e <;> first | rfl | exact nomatch hset
  refine ⟨_, ps_for hp hc (pi_list pe) (pg_name (i := i) hN hi hx (.inl hf)) pb hfs, fun D σ H ρ r E h q => ?_⟩
  obtain ⟨d, hd, h2⟩ := bind_some h
  obtain ⟨ds, hds, h3⟩ := bind_some h2
  cases asL_some hds
  refine qe σ H ρ _ _ E hd fun v H1 s1 r1 => ?_
  obtain ⟨a, xs, rfl, ha, rx⟩ := r1.lstI
  refine ⟨a, rfl, ⟨xs, SqL.of ha⟩, ?_⟩
  refine for_list (K := X.K) (a := a) (xs := xs) (fun j σ' H' => Same H1 H' ∧ ∃ ρ', EnvR X.K H' σ' ρ' ∧ forGo i fb (ds.drop j) ρ' = some r) ⟨Same.refl _, ρ, E.mono s1, h3⟩ ?_ ?_ ?_
  · rintro j σ' H' _ ⟨s', _⟩
    exact SqL.of (s' _ _ ha)
  · rintro j x' σ' H' hxj ⟨s', ρ', E', h'⟩
    have hj : j < ds.length := by
      rw [← rx.length]
      exact (List.getElem?_eq_some_iff.mp hxj).1
    obtain ⟨dd, hdd, rd⟩ := rx.getV hxj
    have hdrop : ds.drop j = dd :: ds.drop (j + 1) := by
      rw [List.drop_eq_getElem_cons hj]
      rw [List.getElem?_eq_getElem hj] at hdd
      cases hdd
      rfl
    rw [hdrop] at h'
    obtain ⟨r1, hr1, h4⟩ := bind_some (show (fb (setE ρ' i dd)).bind _ = some r from h')
    refine qb _ _ H' _ r1 (E'.set (rd.mono s')) hr1 ?_
    cases r1 with
    | nx ρ2 => exact fun σ2 H2 s2 E2 => ⟨s'.trans s2, ρ2, E2, h4⟩
    | rt d =>
      cases h4
      exact fun v H2 s2 r2 => q v H2 (s1.trans (s'.trans s2)) r2
  · rintro σ' H' ⟨s', ρ', E', h'⟩
    rw [List.drop_eq_nil_of_le (by rw [rx.length]; exact Nat.le_refl _)] at h'
    cases h'
    exact q σ' H' (s1.trans s') E'
theorem dsS (M : Sg) (k : Nat) (N : List Str) (sc : Scope) (X : Cx) (ok : Sok M k N sc X) (hk : X.env.blockKind = .function) (c : S) : ∀ ss, chkS N sc c ss = true → DS X ss (evS M c) := by
  induction c with
  | nil =>
    intro ss h
    cases ss with
    | nil => exact ⟨_, pss_nil, fun D σ H ρ r E h q => by cases h; exact q σ H (Same.refl H) E⟩
    | cons _ _ => exact nomatch h
  | set i e k ih =>
    intro ss h
    unfold chkS at h
    split at h
    · rename_i x px v pos rest
      simp only [Bool.and_eq_true, decide_eq_true_eq] at h
      obtain ⟨⟨⟨⟨h1, h2⟩, h3⟩, h4⟩, h5⟩ := h
      obtain ⟨t, p, q⟩ := (snd M _ N e).e sc X _ ok.toCok h4
      obtain ⟨t2, p2, q2⟩ := ih _ h5
      refine ⟨_, pss_cons (ps_set (i := i) (by rw [ok.nn]; exact ok.nd) (by rw [ok.nn]; exact h1) (loc_ok ok.toCok h2) p (noComp_sw h3 _ _ _) (.inl (ok.fn _))) p2, fun D σ H ρ r E h hq => ?_⟩
      obtain ⟨d, hd, h6⟩ := bind_some h
      refine q σ H ρ d _ E hd fun v H1 s1 r1 => ?_
      exact q2 D _ H1 _ r ((E.mono s1).set r1) h6 (hq.mono s1)
    · cases h
  | unp l is e k ih =>
    intro ss h
    unfold chkS at h
    split at h
    · rename_i ts n p0 v pos rest
      simp only [Bool.and_eq_true] at h
      obtain ⟨⟨⟨⟨h1, h2⟩, h3⟩, h4⟩, h5⟩ := h
      obtain ⟨t, p, q⟩ := (snd M _ N e).e sc X _ ok.toCok h4
      obtain ⟨t2, p2, q2⟩ := ih _ h5
      obtain ⟨pg, lg, fg⟩ := pgs_names ok h1
      cases l with
      | true =>
        refine ⟨_, pss_cons (ps_asg p (pg_unl ok.calm pg lg fg) (noComp_sw1 h2 _ _ _) (noSwap_ok ok.toCok hk h3)) p2, fun D σ H ρ r E h hq => ?_⟩
        obtain ⟨d, hd, h6⟩ := bind_some h
        obtain ⟨ds, hds, h7⟩ := bind_some h6
        obtain ⟨ρ', hρ, h8⟩ := bind_some h7
        cases asL_some hds
        refine q σ H ρ _ _ E hd fun v H1 s1 r1 => ?_
        obtain ⟨a, xs, rfl, ha, rx⟩ := r1.lstI
        exact ⟨a, xs, rfl, SqL.of ha, by rw [rx.length, setL_len hρ], gNames_go rx (E.mono s1) hρ fun σ' E' => q2 D σ' H1 ρ' r E' h8 (hq.mono s1)⟩
      | false =>
        refine ⟨_, pss_cons (ps_asg p (pg_tup ok.calm pg lg fg) (noComp_sw1 h2 _ _ _) (noSwap_ok ok.toCok hk h3)) p2, fun D σ H ρ r E h hq => ?_⟩
        obtain ⟨d, hd, h6⟩ := bind_some h
        obtain ⟨ds, hds, h7⟩ := bind_some h6
        obtain ⟨ρ', hρ, h8⟩ := bind_some h7
        cases asT_some hds
        refine q σ H ρ _ _ E hd fun v H1 s1 r1 => ?_
        obtain ⟨a, xs, rfl, ha, rx⟩ := r1.tupI
        exact ⟨a, xs, rfl, ha, by rw [rx.length, setL_len hρ], gNames_go rx (E.mono s1) hρ fun σ' E' => q2 D σ' H1 ρ' r E' h8 (hq.mono s1)⟩
    · cases h
  | par i j e k ih =>
    intro ss h
    unfold chkS at h
    split at h
    · rename_i x px y py n p0 a b n2 p3 pos rest
      simp only [Bool.and_eq_true, decide_eq_true_eq, Bool.not_eq_true'] at h
      obtain ⟨⟨⟨⟨⟨⟨⟨⟨⟨⟨⟨⟨h1, h2⟩, h3⟩, h4⟩, h5⟩, h6⟩, h7⟩, h8⟩, h9⟩, h10⟩, h11⟩, h12⟩, h13⟩ := h
      obtain ⟨t, p, q⟩ := (snd M _ N e).a sc X _ ok.toCok h12
      obtain ⟨t2, p2, q2⟩ := ih _ h13
      refine ⟨_, pss_cons (ps_par (i := i) (j := j) ok.calm (by rw [ok.nn]; exact ok.nd) (by rw [ok.nn]; exact h1) (by rw [ok.nn]; exact h2) h3 (by rw [ok.esc]; exact h6) (by rw [ok.esc]; exact h7) p (par_ok ok.toCok hk h5 h4 h6 h7 h8 h9 h10 h11)) p2, fun D σ H ρ r E h hq => ?_⟩
      obtain ⟨d, hd, h14⟩ := bind_some h
      obtain ⟨ds, hds, h15⟩ := bind_some h14
      obtain ⟨ρ', hρ, h16⟩ := bind_some h15
      refine q σ H ρ ds _ E (by show (ev M e ρ).bind asT = some ds; rw [hd]; exact hds) fun vs H1 s1 r1 => ?_
      cases r1 with
      | nil => cases hρ
      | cons ra rs =>
        cases rs with
        | nil => cases hρ
        | cons rb rs2 =>
          cases rs2 with
          | cons _ _ => cases hρ
          | nil =>
            cases hρ
            exact ⟨_, _, rfl, q2 D _ H1 _ r (((E.mono s1).set ra).set rb) h16 (hq.mono s1)⟩
    · cases h
  | ret e k ih =>
    intro ss h
    unfold chkS at h
    split at h
    · obtain ⟨t, p, q⟩ := (snd M _ N e).e sc X _ ok.toCok h
      refine ⟨_, pss_cons (ps_ret p) pss_never, fun D σ H ρ r E h hq => ?_⟩
      obtain ⟨d, hd, h6⟩ := bind_some h
      cases h6
      exact q σ H ρ d _ E hd hq
    · cases h
  | ifs c a b k iha ihb ihk =>
    intro ss h
    unfold chkS at h
    split at h
    · simp only [Bool.and_eq_true] at h
      obtain ⟨⟨⟨⟨h1, h2⟩, h3⟩, h4⟩, h5⟩ := h
      obtain ⟨tc, pc, qc⟩ := (snd M _ N c).t sc X _ ok.toCok h1 h2
      obtain ⟨ta, pa, qa⟩ := iha _ h3
      obtain ⟨tb, pb, qb⟩ := ihb _ h4
      obtain ⟨tk, pk, qk⟩ := ihk _ h5
      refine ⟨_, pss_cons (ps_if pc pa pb) pk, fun D σ H ρ r E h hq => ?_⟩
      obtain ⟨z, hz, h6⟩ := bind_some h
      obtain ⟨b, hb, h7⟩ := bind_some h6
      obtain ⟨r1, hr1, h8⟩ := bind_some h7
      have fin : ∀ {H1 : Hp}, Same H H1 → ROk X.K H1 { D with nx := tk D } r1 := fun {H1} s1 => by
        cases r1 with
        | nx ρ' => exact fun σ2 H2 s2 E2 => qk D σ2 H2 ρ' r E2 h8 (hq.mono (s1.trans s2))
        | rt d => cases h8; exact fun v H2 s2 r2 => hq v H2 (s1.trans s2) r2
      refine qc σ H ρ b _ E (by show (ev M c ρ).bind asB = some b; rw [hz]; exact hb) fun H1 s1 => ?_
      cases b with
      | true => exact iteT (qa _ σ H1 ρ r1 (E.mono s1) hr1 (fin s1))
      | false => exact iteF (qb _ σ H1 ρ r1 (E.mono s1) hr1 (fin s1))
    · cases h
  | whl c b k ihb ihk =>
    intro ss h
    unfold chkS at h
    split at h
    · simp only [Bool.and_eq_true] at h
      obtain ⟨⟨⟨h1, h2⟩, h3⟩, h4⟩ := h
      obtain ⟨tw, pw, qw⟩ := dsnd_while (X := X) ok.pas ((snd M _ N c).t sc X _ ok.toCok h1 h2) (ihb _ h3)
      obtain ⟨tk, pk, qk⟩ := ihk _ h4
      refine ⟨_, pss_cons pw pk, fun D σ H ρ r E h hq => ?_⟩
      obtain ⟨r1, hr1, h8⟩ := bind_some h
      refine qw { D with nx := tk D } σ H ρ 64 r1 E hr1 ?_
      cases r1 with
      | nx ρ' => exact fun σ2 H2 s2 E2 => qk D σ2 H2 ρ' r E2 h8 (hq.mono s2)
      | rt d => cases h8; exact hq
    · cases h
  | forl i e b k ihb ihk =>
    intro ss h
    unfold chkS at h
    split at h
    · simp only [Bool.and_eq_true, decide_eq_true_eq] at h
      obtain ⟨⟨⟨⟨⟨h1, h2⟩, h3⟩, h4⟩, h5⟩, h6⟩ := h
      obtain ⟨tw, pw, qw⟩ := dsnd_for (X := X) (i := i) ok.pas ok.calm (by rw [ok.nn]; exact ok.nd) (by rw [ok.nn]; exact h1) (loc_ok ok.toCok h2) (ok.fn _) h3 ((snd M _ N e).e sc X _ ok.toCok h4) (ihb _ h5)
      obtain ⟨tk, pk, qk⟩ := ihk _ h6
      refine ⟨_, pss_cons pw pk, fun D σ H ρ r E h hq => ?_⟩
      obtain ⟨d, hd, h7⟩ := bind_some h
      obtain ⟨ds, hds, h8⟩ := bind_some h7
      obtain ⟨r1, hr1, h9⟩ := bind_some h8
      refine qw { D with nx := tk D } σ H ρ r1 E (by show (ev M e ρ).bind _ = _; rw [hd]; show (asL d).bind _ = _; rw [hds]; exact hr1) ?_
      cases r1 with
      | nx ρ' => exact fun σ2 H2 s2 E2 => qk D σ2 H2 ρ' r E2 h9 (hq.mono s2)
      | rt d => cases h9; exact hq
    · cases h
  | drop e k ih =>
    intro ss h
    unfold chkS at h
    split at h
    · simp only [Bool.and_eq_true] at h
      obtain ⟨⟨h1, h2⟩, h3⟩ := h
      obtain ⟨t, p, q⟩ := (snd M _ N e).e sc X _ ok.toCok h2
      obtain ⟨t2, p2, q2⟩ := ih _ h3
      refine ⟨_, pss_cons (ps_expr p (noComp_sw h1 _ _ _)) p2, fun D σ H ρ r E h hq => ?_⟩
      obtain ⟨d, hd, h6⟩ := bind_some h
      refine q σ H ρ d _ E hd fun v H1 s1 r1 => ?_
      exact q2 D σ H1 ρ r (E.mono s1) h6 (hq.mono s1)
    · cases h
  | nev k ih =>
    intro ss h
    unfold chkS at h
    split at h
    · exact ⟨_, pss_never, fun D σ H ρ r E h hq => nomatch h⟩
    · cases h
end
end TT
set_option Elab.async false
set_option linter.all false
/-! Trees, and what the program does to them, in plain Lean. -/
namespace TT
open PySem
inductive T where
  | nil
  | node (l : T) (k : Int) (r : T)
inductive RT where
  | nil
  | node (l : RT) (k : Int) (r : RT) (y : Int)
def T.keys : T → List Int
  | .nil => []
  | .node l k r => l.keys ++ [k] ++ r.keys
def T.size : T → Nat
  | .nil => 0
  | .node l _ r => l.size + 1 + r.size
def T.ht : T → Nat
  | .nil => 0
  | .node l _ r => 1 + max l.ht r.ht
def T.left : T → T
  | .nil => .nil
  | .node l _ _ => l
def T.right : T → T
  | .nil => .nil
  | .node _ _ r => r
def T.root : T → Int
  | .nil => 0
  | .node _ k _ => k
def T.isNil : T → Bool
  | .nil => true
  | .node _ _ _ => false
def enc : T → D
  | .nil => .tuple []
  | .node l k r => .tuple [enc l, .int k, enc r]
def encR : RT → D
  | .nil => .tuple []
  | .node l k r y => .tuple [encR l, .int k, encR r, .int y]
def decT : Nat → D → Option T
  | 0, _ => none
  | _ + 1, .tuple [] => some .nil
  | n + 1, .tuple [a, .int k, b] => (decT n a).bind fun l => (decT n b).bind fun r => some (.node l k r)
  | _ + 1, _ => none
def way : T → Int → Nat
  | .nil, _ => 0
  | .node l x r, k => if x = k then 0 else if k < x then 1 + way l k else 1 + way r k
def path : T → Int → List Int
  | .nil, _ => []
  | .node l x r, k => if x = k then [k] else if k < x then x :: path l k else x :: path r k
def leftUp : T → T
  | .node (.node a j b) k r => .node a j (.node b k r)
  | t => t
def rightUp : T → T
  | .node l k (.node a j b) => .node (.node l k a) j b
  | t => t
def rootIs : T → Int → Bool
  | .nil, _ => false
  | .node _ x _, k => decide (x = k)
def turned : T → Int → T
  | .nil, _ => .nil
  | .node l x r, k => if k < x then (if rootIs l k then leftUp (.node l x r) else .node (turned l k) x r) else (if rootIs r k then rightUp (.node l x r) else .node l x (turned r k))
def withLeaf : T → Int → T
  | .nil, k => .node .nil k .nil
  | .node l x r, k => if k < x then .node (withLeaf l k) x r else .node l x (withLeaf r k)
def least : T → Int
  | .nil => 0
  | .node l k _ => if l.isNil then k else least l
def greatest : T → Int
  | .nil => 0
  | .node _ k r => if r.isNil then k else greatest r
def without : T → Int → T
  | .nil, _ => .nil
  | .node l x r, k => if k < x then .node (without l k) x r else if x < k then .node l x (without r k) else if l.isNil || r.isNil then (if r.isNil then l else r) else .node l (least r) (without r (least r))
def onceUp (t : T) (k : Int) : T := if rootIs t k then t else turned t k
def toTop : Nat → T → Int → T
  | 0, t, _ => t
  | n + 1, t, k => if rootIs t k then t else toTop n (turned t k) k
def stepUp (t : T) (k : Int) : T :=
  let ws := path t k
  let g := ws.getD (ws.length - 3) 0
  let p := ws.getD (ws.length - 2) 0
  turned (turned t (if decide (k < p) == decide (p < g) then p else k)) k
def splayN : Nat → T → Int → T
  | 0, t, _ => t
  | n + 1, t, k => if 1 < way t k then splayN n (stepUp t k) k else t
def splayed (t : T) (k : Int) : T := onceUp (splayN 63 t k) k
def hang : T → T → T
  | .nil, _ => .nil
  | .node a j _, r => .node a j r
def withoutSplayed (t : T) (k : Int) : T :=
  let s := splayed t k
  if s.left.isNil then s.right else hang (splayed s.left (greatest s.left)) s.right
def greaterB (h : Bool) (a b : T) : Bool := if h then decide (b.ht + 1 < a.ht) else decide (3 * (b.size + 1) < a.size + 1)
def innerB (h : Bool) (a b : T) : Bool := if h then decide (b.ht < a.ht) else decide (2 * (b.size + 1) ≤ a.size + 1)
def setRight (h : Bool) : T → T
  | .nil => .nil
  | .node l k r => if greaterB h l r then leftUp (.node (if innerB h l.right l.left then rightUp l else l) k r) else if greaterB h r l then rightUp (.node l k (if innerB h r.left r.right then leftUp r else r)) else .node l k r
def putRight (h : Bool) : T → Int → T
  | .nil, k => .node .nil k .nil
  | .node l x r, k => if k < x then setRight h (.node (putRight h l k) x r) else setRight h (.node l x (putRight h r k))
def takeRight (h : Bool) : T → Int → T
  | .nil, _ => .nil
  | .node l x r, k => if k < x then setRight h (.node (takeRight h l k) x r) else if x < k then setRight h (.node l x (takeRight h r k)) else if l.isNil || r.isNil then (if r.isNil then l else r) else setRight h (.node l (least r) (takeRight h r (least r)))
def evenB (t : T) : Bool := decide (3 * max t.left.size t.right.size ≤ 2 * t.size)
def builtN : Nat → List Int → T
  | 0, _ => .nil
  | n + 1, ks => if ks.isEmpty then .nil else .node (builtN n (ks.take (ks.length / 2))) (ks.getD (ks.length / 2) 0) (builtN n (ks.drop (ks.length / 2 + 1)))
def rebuilt : T → T
  | .nil => .nil
  | .node l k r => if !evenB (.node l k r) then builtN (T.node l k r).keys.length (T.node l k r).keys else .node (rebuilt l) k (rebuilt r)
def plantN : Nat → List Int → T
  | _, [] => .nil
  | 0, _ :: _ => .nil
  | n + 1, x :: r => .node (plantN n (r.filter fun y => decide (y < x))) x (plantN n (r.filter fun y => decide (x < y)))
def plant (ks : List Int) : T := plantN ks.length ks
def byOrder (o ks : List Int) : T := plant (o.filter fun y => decide (y ∈ ks))
/-! ### levels -/
def RT.isNil : RT → Bool
  | .nil => true
  | .node _ _ _ _ => false
def RT.left : RT → RT
  | .nil => .nil
  | .node l _ _ _ => l
def RT.right : RT → RT
  | .nil => .nil
  | .node _ _ r _ => r
def RT.rk : RT → Int
  | .nil => 0
  | .node _ _ _ y => y
def RT.keys : RT → List Int
  | .nil => []
  | .node l k r _ => l.keys ++ [k] ++ r.keys
def RT.ht : RT → Nat
  | .nil => 0
  | .node l _ r _ => 1 + max l.ht r.ht
def RT.size : RT → Nat
  | .nil => 0
  | .node l _ r _ => l.size + 1 + r.size
def ranked : T → RT
  | .nil => .nil
  | .node l k r => .node (ranked l) k (ranked r) ((ranked l).rk + 1)
def bare : RT → T
  | .nil => .nil
  | .node l k r _ => .node (bare l) k (bare r)
def skew : RT → RT
  | .node (.node a j b x) k r y => if x = y then .node a j (.node b k r y) x else .node (.node a j b x) k r y
  | t => t
def split : RT → RT
  | .node l k (.node a j (.node b i c z) x) y => if z = y then .node (.node l k a y) j (.node b i c z) (x + 1) else .node l k (.node a j (.node b i c z) x) y
  | t => t
def putIn : RT → Int → RT
  | .nil, k => .node .nil k .nil 1
  | .node l x r y, k => if k < x then split (skew (.node (putIn l k) x r y)) else split (skew (.node l x (putIn r k) y))
def onR (f : RT → RT) : RT → RT
  | .nil => .nil
  | .node l k r y => .node l k (f r) y
def setRk (y : Int) : RT → RT
  | .nil => .nil
  | .node l k r _ => .node l k r y
def lower (t : RT) : RT :=
  let due := min t.left.rk t.right.rk + 1
  if due < t.rk then setRk due (if due < t.right.rk then onR (setRk due) t else t) else t
def setBack (t : RT) : RT := onR split (split (onR (onR skew) (onR skew (skew (lower t)))))
def RT.least : RT → Int
  | .nil => 0
  | .node l k _ _ => if l.isNil then k else l.least
def RT.greatest : RT → Int
  | .nil => 0
  | .node _ k r _ => if r.isNil then k else r.greatest
def takeOut : RT → Int → RT
  | .nil, _ => .nil
  | .node l x r y, k => if k < x then setBack (.node (takeOut l k) x r y) else if x < k then setBack (.node l x (takeOut r k) y) else
      if l.isNil && r.isNil then .nil else if l.isNil then setBack (.node l r.least (takeOut r r.least) y) else setBack (.node (takeOut l l.greatest) l.greatest r y)
/-! ### rules, deeds -/
inductive Rule where
  | heights | levels | once | plain | rebuilt | splayed | top | weights
  | ranks (o : List Int)
inductive W where
  | ask | inn | out
def W.str : W → Str
  | .ask => "ask"
  | .inn => "in"
  | .out => "out"
def Rule.name : Rule → Str
  | .heights => "heights"
  | .levels => "levels"
  | .once => "once"
  | .plain => "plain"
  | .rebuilt => "rebuilt"
  | .splayed => "splayed"
  | .top => "top"
  | .weights => "weights"
  | .ranks _ => "ranks"
def Rule.tail : Rule → List D
  | .ranks o => [.tuple (o.map PyData.int)]
  | _ => []
def encRule (r : Rule) : D := .tuple (.str r.name :: r.tail)
def encDeed (w : W) (k : Int) : D := .tuple [.str w.str, .int k]
def movedT (ru : Rule) (t : T) (k : Int) : T := match ru with
  | .once => onceUp t k
  | .top => toTop 63 t k
  | .splayed => splayed t k
  | _ => t
def withKey (ru : Rule) (t : T) (k : Int) : T := match ru with
  | .heights => putRight true t k
  | .weights => putRight false t k
  | .levels => bare (putIn (ranked t) k)
  | .rebuilt => TT.rebuilt (withLeaf t k)
  | .ranks o => byOrder o (t.keys ++ [k])
  | ru => movedT ru (withLeaf t k) k
def withoutKey (ru : Rule) (t : T) (k : Int) : T := match ru with
  | .heights => takeRight true t k
  | .weights => takeRight false t k
  | .levels => bare (takeOut (ranked t) k)
  | .rebuilt => TT.rebuilt (without t k)
  | .ranks o => byOrder o (t.keys.filter fun y => decide (y ≠ k))
  | .splayed => withoutSplayed t k
  | _ => without t k
def behindT (ru : Rule) (t : T) (w : W) (k : Int) : T := match w with
  | .ask => movedT ru t k
  | .inn => withKey ru t k
  | .out => withoutKey ru t k
def costT (t : T) (w : W) (k : Int) : Int := way t k + (match w with | .inn => 0 | _ => 1)
/-! ### what a def gives, by the number of calls that are left -/
def lvOk (b : Bool) (t : T) (k : Int) : Bool := decide (t.size ≤ 8) && (decide (t.keys.Pairwise (· < ·)) && (b || decide (k ∈ t.keys)))
def lvD (n : Nat) (b : Bool) (x y : D) : Option D :=
  if 20 ≤ n then (decT 16 x).bind fun t => (asI y).bind fun k => if lvOk b t k then (if b then some (enc (bare (putIn (ranked t) k))) else some (enc (bare (takeOut (ranked t) k)))) else none else none
/-- the keys that are there behind each deed -/
def deedsD : List D → Option (List (Str × Int))
  | [] => some []
  | .tuple [.str w, .int k] :: r => (deedsD r).bind fun ds => some ((w, k) :: ds)
  | _ :: _ => none
def nextKeys (here : List Int) (w : Str) (k : Int) : List Int := if w = "in" then here ++ [k] else if w = "out" then here.filter fun y => decide (y ≠ k) else here
def keysGo : List (Str × Int) → List Int → Option (List (List Int))
  | [], _ => some []
  | (w, k) :: r, here => if decide (k ∈ here) != decide (w ≠ "in") then none else (keysGo r (nextKeys here w k)).bind fun ls => some (nextKeys here w k :: ls)
def keysD (x : D) : Option D := (asL x).bind fun ds => if ds.length ≤ 100 then (deedsD ds).bind fun row => some (match keysGo row [] with
  | none => .none
  | some ls => .list (ls.map fun l => .list (l.map PyData.int))) else none
mutual
/-- no list lies within -/
def noL : D → Bool
  | .none | .bool _ | .int _ | .str _ => true
  | .tuple xs => noLs xs
  | .list _ | .dict _ => false
def noLs : List D → Bool
  | [] => true
  | x :: xs => noL x && noLs xs
end
def runGo (cl : F → List D → Option D) (ru : D) : List D → D → Option (List D × List D)
  | [], _ => some ([], [])
  | d :: ds, s => (cl .cost_of [s, d]).bind fun c => (cl .behind [ru, s, d]).bind fun s' => if flatD c && noL s' then (runGo cl ru ds s').bind fun q => some (s' :: q.1, c :: q.2) else none
def runD (cl : F → List D → Option D) (ru x : D) : Option D := (asL x).bind fun ds => if ds.length ≤ 100 then (runGo cl ru ds (.tuple [])).bind fun q => some (.tuple [.list q.1, .list q.2]) else none
def semD (cl : F → List D → Option D) : F → List D → Option (Option D)
  | .keys_along, [x] => some (keysD x)
  | .run, [r, x] => some (runD cl r x)
  | _, _ => none
def startE (f : F) (ds : List D) : Rho := ds.map some ++ List.replicate ((nms f).length - ds.length) none
def semB (f : F) : Bool := match f with
  | .keys_along => true
  | .run => true
  | _ => false
def callD : Nat → F → List D → Option D
  | 0, _, _ => none
  | n + 1, f, ds => if ds.length = fpn f then
      (if semB f then (semD (callD n) f ds).bind id else (evS ⟨callD n, lvD n⟩ (code f) (startE f ds)).bind fun r => match r with | .rt d => some d | .nx _ => some .none) else none
end TT
set_option Elab.async false
set_option linter.all false
set_option maxRecDepth 100000
set_option maxHeartbeats 4000000
/-! Rows by which simp runs a code. -/
namespace TT
open PySem L2
theorem callD_code {n : Nat} {f : F} {ds : List D} {ρ : Rho} {c : S} (hs : semB f = false) (hl : ds.length = fpn f) (hc : code f = c) (hρ : startE f ds = ρ) {d : D} (h : (evS ⟨callD n, lvD n⟩ c ρ).bind (fun r => match r with | .rt d => some d | .nx _ => some .none) = some d) : callD (n + 1) f ds = some d := by
  rw [callD, if_pos hl, if_neg (by rw [hs]; exact Bool.false_ne_true), hc, hρ]
  exact h
theorem k_is_number {n : Nat} {a0 a1 a2 d : D} (h : (evS ⟨callD n, lvD n⟩ c_is_number [some a0, some a1, some a2]).bind (fun r => match r with | .rt d => some d | .nx _ => some .none) = some d) : callD (n + 1) .is_number [a0, a1, a2] = some d := callD_code rfl rfl rfl rfl h
theorem k_is_between {n : Nat} {a0 a1 a2 d : D} (h : (evS ⟨callD n, lvD n⟩ c_is_between [some a0, some a1, some a2]).bind (fun r => match r with | .rt d => some d | .nx _ => some .none) = some d) : callD (n + 1) .is_between [a0, a1, a2] = some d := callD_code rfl rfl rfl rfl h
theorem k_is_shape {n : Nat} {a0 d : D} (h : (evS ⟨callD n, lvD n⟩ c_is_shape [some a0]).bind (fun r => match r with | .rt d => some d | .nx _ => some .none) = some d) : callD (n + 1) .is_shape [a0] = some d := callD_code rfl rfl rfl rfl h
theorem k_need_shape {n : Nat} {a0 d : D} (h : (evS ⟨callD n, lvD n⟩ c_need_shape [some a0]).bind (fun r => match r with | .rt d => some d | .nx _ => some .none) = some d) : callD (n + 1) .need_shape [a0] = some d := callD_code rfl rfl rfl rfl h
theorem k_keys_of {n : Nat} {a0 d : D} (h : (evS ⟨callD n, lvD n⟩ c_keys_of [some a0]).bind (fun r => match r with | .rt d => some d | .nx _ => some .none) = some d) : callD (n + 1) .keys_of [a0] = some d := callD_code rfl rfl rfl rfl h
theorem k_size_of {n : Nat} {a0 d : D} (h : (evS ⟨callD n, lvD n⟩ c_size_of [some a0]).bind (fun r => match r with | .rt d => some d | .nx _ => some .none) = some d) : callD (n + 1) .size_of [a0] = some d := callD_code rfl rfl rfl rfl h
theorem k_height_of {n : Nat} {a0 d : D} (h : (evS ⟨callD n, lvD n⟩ c_height_of [some a0]).bind (fun r => match r with | .rt d => some d | .nx _ => some .none) = some d) : callD (n + 1) .height_of [a0] = some d := callD_code rfl rfl rfl rfl h
theorem k_way_to {n : Nat} {a0 a1 d : D} (h : (evS ⟨callD n, lvD n⟩ c_way_to [some a0, some a1]).bind (fun r => match r with | .rt d => some d | .nx _ => some .none) = some d) : callD (n + 1) .way_to [a0, a1] = some d := callD_code rfl rfl rfl rfl h
theorem k_left_up {n : Nat} {a0 d : D} (h : (evS ⟨callD n, lvD n⟩ c_left_up [some a0, none, none, none]).bind (fun r => match r with | .rt d => some d | .nx _ => some .none) = some d) : callD (n + 1) .left_up [a0] = some d := callD_code rfl rfl rfl rfl h
theorem k_right_up {n : Nat} {a0 d : D} (h : (evS ⟨callD n, lvD n⟩ c_right_up [some a0, none, none, none]).bind (fun r => match r with | .rt d => some d | .nx _ => some .none) = some d) : callD (n + 1) .right_up [a0] = some d := callD_code rfl rfl rfl rfl h
theorem k_turned {n : Nat} {a0 a1 d : D} (h : (evS ⟨callD n, lvD n⟩ c_turned [some a0, some a1, none, none, none]).bind (fun r => match r with | .rt d => some d | .nx _ => some .none) = some d) : callD (n + 1) .turned [a0, a1] = some d := callD_code rfl rfl rfl rfl h
theorem k_with_leaf {n : Nat} {a0 a1 d : D} (h : (evS ⟨callD n, lvD n⟩ c_with_leaf [some a0, some a1, none, none, none]).bind (fun r => match r with | .rt d => some d | .nx _ => some .none) = some d) : callD (n + 1) .with_leaf [a0, a1] = some d := callD_code rfl rfl rfl rfl h
theorem k_least {n : Nat} {a0 d : D} (h : (evS ⟨callD n, lvD n⟩ c_least [some a0]).bind (fun r => match r with | .rt d => some d | .nx _ => some .none) = some d) : callD (n + 1) .least [a0] = some d := callD_code rfl rfl rfl rfl h
theorem k_greatest {n : Nat} {a0 d : D} (h : (evS ⟨callD n, lvD n⟩ c_greatest [some a0]).bind (fun r => match r with | .rt d => some d | .nx _ => some .none) = some d) : callD (n + 1) .greatest [a0] = some d := callD_code rfl rfl rfl rfl h
theorem k_without {n : Nat} {a0 a1 d : D} (h : (evS ⟨callD n, lvD n⟩ c_without [some a0, some a1, none, none, none, none]).bind (fun r => match r with | .rt d => some d | .nx _ => some .none) = some d) : callD (n + 1) .without [a0, a1] = some d := callD_code rfl rfl rfl rfl h
theorem k_once_up {n : Nat} {a0 a1 d : D} (h : (evS ⟨callD n, lvD n⟩ c_once_up [some a0, some a1]).bind (fun r => match r with | .rt d => some d | .nx _ => some .none) = some d) : callD (n + 1) .once_up [a0, a1] = some d := callD_code rfl rfl rfl rfl h
theorem k_to_top {n : Nat} {a0 a1 d : D} (h : (evS ⟨callD n, lvD n⟩ c_to_top [some a0, some a1]).bind (fun r => match r with | .rt d => some d | .nx _ => some .none) = some d) : callD (n + 1) .to_top [a0, a1] = some d := callD_code rfl rfl rfl rfl h
theorem k_way_down {n : Nat} {a0 a1 d : D} (h : (evS ⟨callD n, lvD n⟩ c_way_down [some a0, some a1]).bind (fun r => match r with | .rt d => some d | .nx _ => some .none) = some d) : callD (n + 1) .way_down [a0, a1] = some d := callD_code rfl rfl rfl rfl h
theorem k_splayed {n : Nat} {a0 a1 d : D} (h : (evS ⟨callD n, lvD n⟩ c_splayed [some a0, some a1, none, none, none]).bind (fun r => match r with | .rt d => some d | .nx _ => some .none) = some d) : callD (n + 1) .splayed [a0, a1] = some d := callD_code rfl rfl rfl rfl h
theorem k_without_splayed {n : Nat} {a0 a1 d : D} (h : (evS ⟨callD n, lvD n⟩ c_without_splayed [some a0, some a1, none, none, none, none]).bind (fun r => match r with | .rt d => some d | .nx _ => some .none) = some d) : callD (n + 1) .without_splayed [a0, a1] = some d := callD_code rfl rfl rfl rfl h
theorem k_weight_of {n : Nat} {a0 d : D} (h : (evS ⟨callD n, lvD n⟩ c_weight_of [some a0]).bind (fun r => match r with | .rt d => some d | .nx _ => some .none) = some d) : callD (n + 1) .weight_of [a0] = some d := callD_code rfl rfl rfl rfl h
theorem k_set_right {n : Nat} {a0 a1 d : D} (h : (evS ⟨callD n, lvD n⟩ c_set_right [some a0, some a1, none, none, none]).bind (fun r => match r with | .rt d => some d | .nx _ => some .none) = some d) : callD (n + 1) .set_right [a0, a1] = some d := callD_code rfl rfl rfl rfl h
theorem k_is_greater {n : Nat} {a0 a1 a2 d : D} (h : (evS ⟨callD n, lvD n⟩ c_is_greater [some a0, some a1, some a2]).bind (fun r => match r with | .rt d => some d | .nx _ => some .none) = some d) : callD (n + 1) .is_greater [a0, a1, a2] = some d := callD_code rfl rfl rfl rfl h
theorem k_is_inner {n : Nat} {a0 a1 a2 d : D} (h : (evS ⟨callD n, lvD n⟩ c_is_inner [some a0, some a1, some a2]).bind (fun r => match r with | .rt d => some d | .nx _ => some .none) = some d) : callD (n + 1) .is_inner [a0, a1, a2] = some d := callD_code rfl rfl rfl rfl h
theorem k_put_right {n : Nat} {a0 a1 a2 d : D} (h : (evS ⟨callD n, lvD n⟩ c_put_right [some a0, some a1, some a2, none, none, none]).bind (fun r => match r with | .rt d => some d | .nx _ => some .none) = some d) : callD (n + 1) .put_right [a0, a1, a2] = some d := callD_code rfl rfl rfl rfl h
theorem k_take_right {n : Nat} {a0 a1 a2 d : D} (h : (evS ⟨callD n, lvD n⟩ c_take_right [some a0, some a1, some a2, none, none, none, none]).bind (fun r => match r with | .rt d => some d | .nx _ => some .none) = some d) : callD (n + 1) .take_right [a0, a1, a2] = some d := callD_code rfl rfl rfl rfl h
theorem k_is_even {n : Nat} {a0 d : D} (h : (evS ⟨callD n, lvD n⟩ c_is_even [some a0]).bind (fun r => match r with | .rt d => some d | .nx _ => some .none) = some d) : callD (n + 1) .is_even [a0] = some d := callD_code rfl rfl rfl rfl h
theorem k_built {n : Nat} {a0 d : D} (h : (evS ⟨callD n, lvD n⟩ c_built [some a0, none]).bind (fun r => match r with | .rt d => some d | .nx _ => some .none) = some d) : callD (n + 1) .built [a0] = some d := callD_code rfl rfl rfl rfl h
theorem k_rebuilt {n : Nat} {a0 d : D} (h : (evS ⟨callD n, lvD n⟩ c_rebuilt [some a0]).bind (fun r => match r with | .rt d => some d | .nx _ => some .none) = some d) : callD (n + 1) .rebuilt [a0] = some d := callD_code rfl rfl rfl rfl h
theorem k_put_rebuilt {n : Nat} {a0 a1 d : D} (h : (evS ⟨callD n, lvD n⟩ c_put_rebuilt [some a0, some a1]).bind (fun r => match r with | .rt d => some d | .nx _ => some .none) = some d) : callD (n + 1) .put_rebuilt [a0, a1] = some d := callD_code rfl rfl rfl rfl h
theorem k_take_rebuilt {n : Nat} {a0 a1 d : D} (h : (evS ⟨callD n, lvD n⟩ c_take_rebuilt [some a0, some a1]).bind (fun r => match r with | .rt d => some d | .nx _ => some .none) = some d) : callD (n + 1) .take_rebuilt [a0, a1] = some d := callD_code rfl rfl rfl rfl h
theorem k_rank_of {n : Nat} {a0 d : D} (h : (evS ⟨callD n, lvD n⟩ c_rank_of [some a0]).bind (fun r => match r with | .rt d => some d | .nx _ => some .none) = some d) : callD (n + 1) .rank_of [a0] = some d := callD_code rfl rfl rfl rfl h
theorem k_ranked {n : Nat} {a0 d : D} (h : (evS ⟨callD n, lvD n⟩ c_ranked [some a0, none]).bind (fun r => match r with | .rt d => some d | .nx _ => some .none) = some d) : callD (n + 1) .ranked [a0] = some d := callD_code rfl rfl rfl rfl h
theorem k_bare {n : Nat} {a0 d : D} (h : (evS ⟨callD n, lvD n⟩ c_bare [some a0]).bind (fun r => match r with | .rt d => some d | .nx _ => some .none) = some d) : callD (n + 1) .bare [a0] = some d := callD_code rfl rfl rfl rfl h
theorem k_skew {n : Nat} {a0 d : D} (h : (evS ⟨callD n, lvD n⟩ c_skew [some a0, none, none, none, none]).bind (fun r => match r with | .rt d => some d | .nx _ => some .none) = some d) : callD (n + 1) .skew [a0] = some d := callD_code rfl rfl rfl rfl h
theorem k_split {n : Nat} {a0 d : D} (h : (evS ⟨callD n, lvD n⟩ c_split [some a0, none, none, none, none]).bind (fun r => match r with | .rt d => some d | .nx _ => some .none) = some d) : callD (n + 1) .split [a0] = some d := callD_code rfl rfl rfl rfl h
theorem k_put_in {n : Nat} {a0 a1 d : D} (h : (evS ⟨callD n, lvD n⟩ c_put_in [some a0, some a1, none, none, none, none]).bind (fun r => match r with | .rt d => some d | .nx _ => some .none) = some d) : callD (n + 1) .put_in [a0, a1] = some d := callD_code rfl rfl rfl rfl h
theorem k_with_right {n : Nat} {a0 a1 d : D} (h : (evS ⟨callD n, lvD n⟩ c_with_right [some a0, some a1]).bind (fun r => match r with | .rt d => some d | .nx _ => some .none) = some d) : callD (n + 1) .with_right [a0, a1] = some d := callD_code rfl rfl rfl rfl h
theorem k_set_back {n : Nat} {a0 d : D} (h : (evS ⟨callD n, lvD n⟩ c_set_back [some a0, none, none, none, none, none]).bind (fun r => match r with | .rt d => some d | .nx _ => some .none) = some d) : callD (n + 1) .set_back [a0] = some d := callD_code rfl rfl rfl rfl h
theorem k_take_out {n : Nat} {a0 a1 d : D} (h : (evS ⟨callD n, lvD n⟩ c_take_out [some a0, some a1, none, none, none, none, none]).bind (fun r => match r with | .rt d => some d | .nx _ => some .none) = some d) : callD (n + 1) .take_out [a0, a1] = some d := callD_code rfl rfl rfl rfl h
theorem k_is_rule {n : Nat} {a0 d : D} (h : (evS ⟨callD n, lvD n⟩ c_is_rule [some a0, none]).bind (fun r => match r with | .rt d => some d | .nx _ => some .none) = some d) : callD (n + 1) .is_rule [a0] = some d := callD_code rfl rfl rfl rfl h
theorem k_need_rule {n : Nat} {a0 d : D} (h : (evS ⟨callD n, lvD n⟩ c_need_rule [some a0]).bind (fun r => match r with | .rt d => some d | .nx _ => some .none) = some d) : callD (n + 1) .need_rule [a0] = some d := callD_code rfl rfl rfl rfl h
theorem k_by_order {n : Nat} {a0 a1 d : D} (h : (evS ⟨callD n, lvD n⟩ c_by_order [some a0, some a1, none, none]).bind (fun r => match r with | .rt d => some d | .nx _ => some .none) = some d) : callD (n + 1) .by_order [a0, a1] = some d := callD_code rfl rfl rfl rfl h
theorem k_with_key {n : Nat} {a0 a1 a2 d : D} (h : (evS ⟨callD n, lvD n⟩ c_with_key [some a0, some a1, some a2]).bind (fun r => match r with | .rt d => some d | .nx _ => some .none) = some d) : callD (n + 1) .with_key [a0, a1, a2] = some d := callD_code rfl rfl rfl rfl h
theorem k_without_key {n : Nat} {a0 a1 a2 d : D} (h : (evS ⟨callD n, lvD n⟩ c_without_key [some a0, some a1, some a2, none]).bind (fun r => match r with | .rt d => some d | .nx _ => some .none) = some d) : callD (n + 1) .without_key [a0, a1, a2] = some d := callD_code rfl rfl rfl rfl h
theorem k_moved {n : Nat} {a0 a1 a2 d : D} (h : (evS ⟨callD n, lvD n⟩ c_moved [some a0, some a1, some a2]).bind (fun r => match r with | .rt d => some d | .nx _ => some .none) = some d) : callD (n + 1) .moved [a0, a1, a2] = some d := callD_code rfl rfl rfl rfl h
theorem k_behind {n : Nat} {a0 a1 a2 d : D} (h : (evS ⟨callD n, lvD n⟩ c_behind [some a0, some a1, some a2]).bind (fun r => match r with | .rt d => some d | .nx _ => some .none) = some d) : callD (n + 1) .behind [a0, a1, a2] = some d := callD_code rfl rfl rfl rfl h
theorem k_cost_of {n : Nat} {a0 a1 d : D} (h : (evS ⟨callD n, lvD n⟩ c_cost_of [some a0, some a1]).bind (fun r => match r with | .rt d => some d | .nx _ => some .none) = some d) : callD (n + 1) .cost_of [a0, a1] = some d := callD_code rfl rfl rfl rfl h
theorem k_is_deed {n : Nat} {a0 d : D} (h : (evS ⟨callD n, lvD n⟩ c_is_deed [some a0]).bind (fun r => match r with | .rt d => some d | .nx _ => some .none) = some d) : callD (n + 1) .is_deed [a0] = some d := callD_code rfl rfl rfl rfl h
theorem k_is_possible {n : Nat} {a0 a1 d : D} (h : (evS ⟨callD n, lvD n⟩ c_is_possible [some a0, some a1]).bind (fun r => match r with | .rt d => some d | .nx _ => some .none) = some d) : callD (n + 1) .is_possible [a0, a1] = some d := callD_code rfl rfl rfl rfl h
theorem k_need_deed {n : Nat} {a0 a1 d : D} (h : (evS ⟨callD n, lvD n⟩ c_need_deed [some a0, some a1]).bind (fun r => match r with | .rt d => some d | .nx _ => some .none) = some d) : callD (n + 1) .need_deed [a0, a1] = some d := callD_code rfl rfl rfl rfl h
theorem k_cost {n : Nat} {a0 a1 d : D} (h : (evS ⟨callD n, lvD n⟩ c_cost [some a0, some a1]).bind (fun r => match r with | .rt d => some d | .nx _ => some .none) = some d) : callD (n + 1) .cost [a0, a1] = some d := callD_code rfl rfl rfl rfl h
theorem k_is_row {n : Nat} {a0 d : D} (h : (evS ⟨callD n, lvD n⟩ c_is_row [some a0, none]).bind (fun r => match r with | .rt d => some d | .nx _ => some .none) = some d) : callD (n + 1) .is_row [a0] = some d := callD_code rfl rfl rfl rfl h
theorem k_need_row {n : Nat} {a0 d : D} (h : (evS ⟨callD n, lvD n⟩ c_need_row [some a0]).bind (fun r => match r with | .rt d => some d | .nx _ => some .none) = some d) : callD (n + 1) .need_row [a0] = some d := callD_code rfl rfl rfl rfl h
theorem k_need_run {n : Nat} {a0 a1 d : D} (h : (evS ⟨callD n, lvD n⟩ c_need_run [some a0, some a1]).bind (fun r => match r with | .rt d => some d | .nx _ => some .none) = some d) : callD (n + 1) .need_run [a0, a1] = some d := callD_code rfl rfl rfl rfl h
theorem k_shapes_along {n : Nat} {a0 a1 d : D} (h : (evS ⟨callD n, lvD n⟩ c_shapes_along [some a0, some a1]).bind (fun r => match r with | .rt d => some d | .nx _ => some .none) = some d) : callD (n + 1) .shapes_along [a0, a1] = some d := callD_code rfl rfl rfl rfl h
theorem k_costs_along {n : Nat} {a0 a1 d : D} (h : (evS ⟨callD n, lvD n⟩ c_costs_along [some a0, some a1]).bind (fun r => match r with | .rt d => some d | .nx _ => some .none) = some d) : callD (n + 1) .costs_along [a0, a1] = some d := callD_code rfl rfl rfl rfl h
theorem k__law_keys {n : Nat} {a0 d : D} (h : (evS ⟨callD n, lvD n⟩ c__law_keys [some a0]).bind (fun r => match r with | .rt d => some d | .nx _ => some .none) = some d) : callD (n + 1) ._law_keys [a0] = some d := callD_code rfl rfl rfl rfl h
theorem k__law_tall {n : Nat} {a0 d : D} (h : (evS ⟨callD n, lvD n⟩ c__law_tall [some a0]).bind (fun r => match r with | .rt d => some d | .nx _ => some .none) = some d) : callD (n + 1) ._law_tall [a0] = some d := callD_code rfl rfl rfl rfl h
theorem k__law_path {n : Nat} {a0 a1 d : D} (h : (evS ⟨callD n, lvD n⟩ c__law_path [some a0, some a1]).bind (fun r => match r with | .rt d => some d | .nx _ => some .none) = some d) : callD (n + 1) ._law_path [a0, a1] = some d := callD_code rfl rfl rfl rfl h
theorem k__law_plant {n : Nat} {a0 d : D} (h : (evS ⟨callD n, lvD n⟩ c__law_plant [some a0, none, none]).bind (fun r => match r with | .rt d => some d | .nx _ => some .none) = some d) : callD (n + 1) ._law_plant [a0] = some d := callD_code rfl rfl rfl rfl h
theorem k__law_order {n : Nat} {a0 d : D} (h : (evS ⟨callD n, lvD n⟩ c__law_order [some a0]).bind (fun r => match r with | .rt d => some d | .nx _ => some .none) = some d) : callD (n + 1) ._law_order [a0] = some d := callD_code rfl rfl rfl rfl h
theorem k__law_turn {n : Nat} {a0 a1 d : D} (h : (evS ⟨callD n, lvD n⟩ c__law_turn [some a0, some a1, none, none, none]).bind (fun r => match r with | .rt d => some d | .nx _ => some .none) = some d) : callD (n + 1) ._law_turn [a0, a1] = some d := callD_code rfl rfl rfl rfl h
theorem k__law_leaf {n : Nat} {a0 a1 d : D} (h : (evS ⟨callD n, lvD n⟩ c__law_leaf [some a0, some a1]).bind (fun r => match r with | .rt d => some d | .nx _ => some .none) = some d) : callD (n + 1) ._law_leaf [a0, a1] = some d := callD_code rfl rfl rfl rfl h
theorem k__law_part {n : Nat} {a0 a1 d : D} (h : (evS ⟨callD n, lvD n⟩ c__law_part [some a0, some a1]).bind (fun r => match r with | .rt d => some d | .nx _ => some .none) = some d) : callD (n + 1) ._law_part [a0, a1] = some d := callD_code rfl rfl rfl rfl h
theorem k__law_put {n : Nat} {a0 a1 a2 d : D} (h : (evS ⟨callD n, lvD n⟩ c__law_put [some a0, some a1, some a2]).bind (fun r => match r with | .rt d => some d | .nx _ => some .none) = some d) : callD (n + 1) ._law_put [a0, a1, a2] = some d := callD_code rfl rfl rfl rfl h
theorem k__law_out {n : Nat} {a0 a1 d : D} (h : (evS ⟨callD n, lvD n⟩ c__law_out [some a0, some a1, none, none, none, none, none, none]).bind (fun r => match r with | .rt d => some d | .nx _ => some .none) = some d) : callD (n + 1) ._law_out [a0, a1] = some d := callD_code rfl rfl rfl rfl h
theorem k__law_heavy {n : Nat} {a0 a1 a2 d : D} (h : (evS ⟨callD n, lvD n⟩ c__law_heavy [some a0, some a1, some a2]).bind (fun r => match r with | .rt d => some d | .nx _ => some .none) = some d) : callD (n + 1) ._law_heavy [a0, a1, a2] = some d := callD_code rfl rfl rfl rfl h
theorem k__law_inner {n : Nat} {a0 a1 a2 d : D} (h : (evS ⟨callD n, lvD n⟩ c__law_inner [some a0, some a1, some a2]).bind (fun r => match r with | .rt d => some d | .nx _ => some .none) = some d) : callD (n + 1) ._law_inner [a0, a1, a2] = some d := callD_code rfl rfl rfl rfl h
theorem k__law_fixed {n : Nat} {a0 a1 a2 d : D} (h : (evS ⟨callD n, lvD n⟩ c__law_fixed [some a0, some a1, some a2, none, none, none, none]).bind (fun r => match r with | .rt d => some d | .nx _ => some .none) = some d) : callD (n + 1) ._law_fixed [a0, a1, a2] = some d := callD_code rfl rfl rfl rfl h
theorem k__law_set {n : Nat} {a0 a1 a2 d : D} (h : (evS ⟨callD n, lvD n⟩ c__law_set [some a0, some a1, some a2, none]).bind (fun r => match r with | .rt d => some d | .nx _ => some .none) = some d) : callD (n + 1) ._law_set [a0, a1, a2] = some d := callD_code rfl rfl rfl rfl h
theorem k__law_even {n : Nat} {a0 d : D} (h : (evS ⟨callD n, lvD n⟩ c__law_even [some a0, none]).bind (fun r => match r with | .rt d => some d | .nx _ => some .none) = some d) : callD (n + 1) ._law_even [a0] = some d := callD_code rfl rfl rfl rfl h
theorem k__law_is_even {n : Nat} {a0 d : D} (h : (evS ⟨callD n, lvD n⟩ c__law_is_even [some a0]).bind (fun r => match r with | .rt d => some d | .nx _ => some .none) = some d) : callD (n + 1) ._law_is_even [a0] = some d := callD_code rfl rfl rfl rfl h
theorem k__law_again {n : Nat} {a0 d : D} (h : (evS ⟨callD n, lvD n⟩ c__law_again [some a0]).bind (fun r => match r with | .rt d => some d | .nx _ => some .none) = some d) : callD (n + 1) ._law_again [a0] = some d := callD_code rfl rfl rfl rfl h
theorem k__law_splay {n : Nat} {a0 a1 d : D} (h : (evS ⟨callD n, lvD n⟩ c__law_splay [some a0, some a1, none, none, none]).bind (fun r => match r with | .rt d => some d | .nx _ => some .none) = some d) : callD (n + 1) ._law_splay [a0, a1] = some d := callD_code rfl rfl rfl rfl h
theorem k__law_moved {n : Nat} {a0 a1 a2 d : D} (h : (evS ⟨callD n, lvD n⟩ c__law_moved [some a0, some a1, some a2]).bind (fun r => match r with | .rt d => some d | .nx _ => some .none) = some d) : callD (n + 1) ._law_moved [a0, a1, a2] = some d := callD_code rfl rfl rfl rfl h
theorem k__law_splay_out {n : Nat} {a0 a1 d : D} (h : (evS ⟨callD n, lvD n⟩ c__law_splay_out [some a0, some a1, none, none, none, none]).bind (fun r => match r with | .rt d => some d | .nx _ => some .none) = some d) : callD (n + 1) ._law_splay_out [a0, a1] = some d := callD_code rfl rfl rfl rfl h
theorem k__law_in {n : Nat} {a0 a1 a2 d : D} (h : (evS ⟨callD n, lvD n⟩ c__law_in [some a0, some a1, some a2, none, none, none]).bind (fun r => match r with | .rt d => some d | .nx _ => some .none) = some d) : callD (n + 1) ._law_in [a0, a1, a2] = some d := callD_code rfl rfl rfl rfl h
theorem k__law_after {n : Nat} {a0 a1 a2 d : D} (h : (evS ⟨callD n, lvD n⟩ c__law_after [some a0, some a1, some a2, none, none, none, none, none]).bind (fun r => match r with | .rt d => some d | .nx _ => some .none) = some d) : callD (n + 1) ._law_after [a0, a1, a2] = some d := callD_code rfl rfl rfl rfl h
theorem k__law_price {n : Nat} {a0 a1 d : D} (h : (evS ⟨callD n, lvD n⟩ c__law_price [some a0, some a1]).bind (fun r => match r with | .rt d => some d | .nx _ => some .none) = some d) : callD (n + 1) ._law_price [a0, a1] = some d := callD_code rfl rfl rfl rfl h

section
variable {M : Sg} {ρ : Rho}
@[simp] theorem e_var {i : Nat} : ev M (.var i) ρ = getE ρ i := rfl
@[simp] theorem e_cst {d : D} : ev M (.cst d) ρ = some d := rfl
@[simp] theorem e_glb {g : G} : ev M (.glb g) ρ = some (gval g) := rfl
@[simp] theorem e_nil : ev M .nil ρ = some (.tuple []) := rfl
@[simp] theorem e_cons {a t : C} : ev M (.cons a t) ρ = (ev M a ρ).bind fun x => (ev M t ρ).bind fun y => (asT y).bind fun ys => some (.tuple (x :: ys)) := rfl
@[simp] theorem e_tup {c : C} : ev M (.tup c) ρ = (ev M c ρ).bind fun y => (asT y).bind fun ys => if ys.length ≤ 1000 then some (.tuple ys) else none := rfl
@[simp] theorem e_lst {c : C} : ev M (.lst c) ρ = (ev M c ρ).bind fun y => (asT y).bind fun ys => if ys.length ≤ 1000 then some (.list ys) else none := rfl
@[simp] theorem e_call {f : F} {c : C} : ev M (.call f c) ρ = (ev M c ρ).bind fun y => (asT y).bind fun ys => M.cl f ys := rfl
@[simp] theorem e_b1 {b : B1} {a : C} : ev M (.b1 b a) ρ = (ev M a ρ).bind fun x => op1 b x := rfl
@[simp] theorem e_b2 {b : B2} {a c : C} : ev M (.b2 b a c) ρ = (ev M a ρ).bind fun x => (ev M c ρ).bind fun y => op2 b x y := rfl
@[simp] theorem e_neg {a : C} : ev M (.neg a) ρ = (ev M a ρ).bind fun x => (asI x).bind fun i => some (.int (-i)) := rfl
@[simp] theorem e_isN {a : C} : ev M (.isN a) ρ = (ev M a ρ).bind fun x => some (.bool (PyData.eqv x .none)) := rfl
@[simp] theorem e_notN {a : C} : ev M (.notN a) ρ = (ev M a ρ).bind fun x => some (.bool (!PyData.eqv x .none)) := rfl
@[simp] theorem e_and {a b : C} : ev M (.and a b) ρ = (ev M a ρ).bind fun x => (asB x).bind fun k => if k then ev M b ρ else some (.bool false) := rfl
@[simp] theorem e_or {a b : C} : ev M (.or a b) ρ = (ev M a ρ).bind fun x => (asB x).bind fun k => if k then some (.bool true) else ev M b ρ := rfl
@[simp] theorem e_not {a : C} : ev M (.not a) ρ = (ev M a ρ).bind fun x => (asB x).bind fun k => some (.bool (!k)) := rfl
@[simp] theorem e_ite {c a b : C} : ev M (.ite c a b) ρ = (ev M c ρ).bind fun x => (asB x).bind fun k => if k then ev M a ρ else ev M b ρ := rfl
@[simp] theorem e_chain {a b c : C} : ev M (.chain a b c) ρ = (ev M a ρ).bind fun x => (asI x).bind fun i => (ev M b ρ).bind fun y => (asI y).bind fun j => if i ≤ j then (ev M c ρ).bind fun z => (asI z).bind fun k => some (.bool (decide (j ≤ k))) else some (.bool false) := rfl
@[simp] theorem e_rev {a : C} : ev M (.rev a) ρ = (ev M a ρ).bind fun x => (asL x).bind fun xs => some (.list xs.reverse) := rfl
@[simp] theorem e_slc {a lo hi : C} : ev M (.slc a lo hi) ρ = (ev M a ρ).bind fun x => (asL x).bind fun xs => (if isNil lo then some none else (ev M lo ρ).bind fun l => (asI l).bind fun i => some (some i)).bind fun l =>
  (if isNil hi then some none else (ev M hi ρ).bind fun h => (asI h).bind fun i => some (some i)).bind fun h => some (.list (cutD xs l h)) := rfl
@[simp] theorem e_lvl {b : Bool} {a k : C} : ev M (.lvl b a k) ρ = (ev M a ρ).bind fun x => (ev M k ρ).bind fun y => M.lv b x y := rfl
theorem e_comp {l : Bool} {i : Nat} {src cond elt : C} : ev M (.comp l i src cond elt) ρ = (ev M src ρ).bind fun x => (if l then asL x else asT x).bind fun ds => if ds.length ≤ 1000 then
  (compGo (fun d => if isNil cond then some true else (ev M cond (setE ρ i d)).bind asB) (fun d => ev M elt (setE ρ i d)) ds).bind fun ys => some (.list ys) else none := rfl
@[simp] theorem s_nil : evS M .nil ρ = some (.nx ρ) := rfl
@[simp] theorem s_set {i : Nat} {e : C} {k : S} : evS M (.set i e k) ρ = (ev M e ρ).bind fun d => evS M k (setE ρ i d) := rfl
@[simp] theorem s_unp {l : Bool} {is : List Nat} {e : C} {k : S} : evS M (.unp l is e k) ρ = (ev M e ρ).bind fun d => (if l then asL d else asT d).bind fun ds => (setL ρ is ds).bind fun ρ' => evS M k ρ' := rfl
@[simp] theorem s_par {i j : Nat} {e : C} {k : S} : evS M (.par i j e k) ρ = (ev M e ρ).bind fun d => (asT d).bind fun ds => (setL ρ [i, j] ds).bind fun ρ' => evS M k ρ' := rfl
@[simp] theorem s_ret {e : C} {k : S} : evS M (.ret e k) ρ = (ev M e ρ).bind fun d => some (.rt d) := rfl
@[simp] theorem s_ifs {c : C} {a b k : S} : evS M (.ifs c a b k) ρ = (ev M c ρ).bind fun x => (asB x).bind fun z => (if z then evS M a ρ else evS M b ρ).bind fun r => match r with | .nx ρ' => evS M k ρ' | .rt d => some (.rt d) := rfl
@[simp] theorem s_whl {c : C} {b k : S} : evS M (.whl c b k) ρ = (whileGo (fun ρ => (ev M c ρ).bind asB) (fun ρ => evS M b ρ) 64 ρ).bind fun r => match r with | .nx ρ' => evS M k ρ' | .rt d => some (.rt d) := rfl
@[simp] theorem s_forl {i : Nat} {e : C} {b k : S} : evS M (.forl i e b k) ρ = (ev M e ρ).bind fun d => (asL d).bind fun ds => (forGo i (fun ρ => evS M b ρ) ds ρ).bind fun r => match r with | .nx ρ' => evS M k ρ' | .rt d => some (.rt d) := rfl
@[simp] theorem s_drop {e : C} {k : S} : evS M (.drop e k) ρ = (ev M e ρ).bind fun _ => evS M k ρ := rfl
end
@[simp] theorem g_0 {a : Option D} {r : Rho} : getE (a :: r) 0 = a := rfl
@[simp] theorem g_1 {a b : Option D} {r : Rho} : getE (a :: b :: r) 1 = b := rfl
@[simp] theorem g_2 {a b c : Option D} {r : Rho} : getE (a :: b :: c :: r) 2 = c := rfl
@[simp] theorem g_3 {a b c d : Option D} {r : Rho} : getE (a :: b :: c :: d :: r) 3 = d := rfl
@[simp] theorem g_4 {a b c d e : Option D} {r : Rho} : getE (a :: b :: c :: d :: e :: r) 4 = e := rfl
@[simp] theorem g_5 {a b c d e f : Option D} {r : Rho} : getE (a :: b :: c :: d :: e :: f :: r) 5 = f := rfl
@[simp] theorem g_6 {a b c d e f g : Option D} {r : Rho} : getE (a :: b :: c :: d :: e :: f :: g :: r) 6 = g := rfl
@[simp] theorem g_7 {a b c d e f g h : Option D} {r : Rho} : getE (a :: b :: c :: d :: e :: f :: g :: h :: r) 7 = h := rfl
@[simp] theorem t_0 {a : Option D} {r : Rho} {x : D} : setE (a :: r) 0 x = some x :: r := rfl
@[simp] theorem t_1 {a b : Option D} {r : Rho} {x : D} : setE (a :: b :: r) 1 x = a :: some x :: r := rfl
@[simp] theorem t_2 {a b c : Option D} {r : Rho} {x : D} : setE (a :: b :: c :: r) 2 x = a :: b :: some x :: r := rfl
@[simp] theorem t_3 {a b c d : Option D} {r : Rho} {x : D} : setE (a :: b :: c :: d :: r) 3 x = a :: b :: c :: some x :: r := rfl
@[simp] theorem t_4 {a b c d e : Option D} {r : Rho} {x : D} : setE (a :: b :: c :: d :: e :: r) 4 x = a :: b :: c :: d :: some x :: r := rfl
@[simp] theorem t_5 {a b c d e f : Option D} {r : Rho} {x : D} : setE (a :: b :: c :: d :: e :: f :: r) 5 x = a :: b :: c :: d :: e :: some x :: r := rfl
@[simp] theorem t_6 {a b c d e f g : Option D} {r : Rho} {x : D} : setE (a :: b :: c :: d :: e :: f :: g :: r) 6 x = a :: b :: c :: d :: e :: f :: some x :: r := rfl
@[simp] theorem t_7 {a b c d e f g h : Option D} {r : Rho} {x : D} : setE (a :: b :: c :: d :: e :: f :: g :: h :: r) 7 x = a :: b :: c :: d :: e :: f :: g :: some x :: r := rfl
@[simp] theorem sl_nil {ρ : Rho} : setL ρ [] [] = some ρ := rfl
@[simp] theorem sl_cons {ρ : Rho} {i : Nat} {is : List Nat} {d : D} {ds : List D} : setL ρ (i :: is) (d :: ds) = setL (setE ρ i d) is ds := rfl
@[simp] theorem asB_b {b : Bool} : asB (.bool b) = some b := rfl
@[simp] theorem asI_i {b : Int} : asI (.int b) = some b := rfl
@[simp] theorem asL_l {b : List D} : asL (.list b) = some b := rfl
@[simp] theorem asT_t {b : List D} : asT (.tuple b) = some b := rfl
@[simp] theorem seq_l {b : List D} : seqOf (.list b) = some b := rfl
@[simp] theorem seq_t {b : List D} : seqOf (.tuple b) = some b := rfl
@[simp] theorem o_addii {i j : Int} : op2 .add (.int i) (.int j) = some (.int (i + j)) := rfl
@[simp] theorem o_addib {i : Int} {b : Bool} : op2 .add (.int i) (.bool b) = some (.int (i + if b then 1 else 0)) := rfl
@[simp] theorem o_addll {xs ys : List D} : op2 .add (.list xs) (.list ys) = if xs.length + ys.length ≤ 1000 then some (.list (xs ++ ys)) else none := rfl
@[simp] theorem o_sub {i j : Int} : op2 .sub (.int i) (.int j) = some (.int (i - j)) := rfl
@[simp] theorem o_mul {i j : Int} : op2 .mul (.int i) (.int j) = if i.natAbs ≤ 1000 then some (.int (i * j)) else none := rfl
@[simp] theorem o_fdiv {i j : Int} : op2 .fdiv (.int i) (.int j) = if 0 < j ∧ j < 1000 then some (.int (i / j)) else none := rfl
@[simp] theorem o_lt {i j : Int} : op2 .lt (.int i) (.int j) = some (.bool (decide (i < j))) := rfl
@[simp] theorem o_le {i j : Int} : op2 .le (.int i) (.int j) = some (.bool (decide (i ≤ j))) := rfl
@[simp] theorem o_gt {i j : Int} : op2 .gt (.int i) (.int j) = some (.bool (decide (j < i))) := rfl
@[simp] theorem o_ge {i j : Int} : op2 .ge (.int i) (.int j) = some (.bool (decide (j ≤ i))) := rfl
@[simp] theorem o_max {i j : Int} : op2 .max (.int i) (.int j) = some (.int (if j > i then j else i)) := rfl
@[simp] theorem o_min {i j : Int} : op2 .min (.int i) (.int j) = some (.int (if j < i then j else i)) := rfl
theorem dec_int (i j : Int) : (i == j) = decide (i = j) := by by_cases h : i = j <;> simp [h]
@[simp] theorem o_eqii {i j : Int} : op2 .eq (.int i) (.int j) = some (.bool (decide (i = j))) := by rw [← dec_int]; rfl
@[simp] theorem o_neii {i j : Int} : op2 .ne (.int i) (.int j) = some (.bool (!decide (i = j))) := by rw [← dec_int]; rfl
@[simp] theorem o_eqss {i j : Str} : op2 .eq (.str i) (.str j) = some (.bool (i == j)) := rfl
@[simp] theorem o_ness {i j : Str} : op2 .ne (.str i) (.str j) = some (.bool (!(i == j))) := rfl
@[simp] theorem o_eqbb {i j : Bool} : op2 .eq (.bool i) (.bool j) = some (.bool (i == j)) := rfl
@[simp] theorem o_nebb {i j : Bool} : op2 .ne (.bool i) (.bool j) = some (.bool (!(i == j))) := rfl
theorem eqOk_nil (d : D) : eqOk d (.tuple []) = true := by simp [eqOk, PyData.depth, PyData.depthAll]
theorem eqOk_nilL (d : D) : eqOk d (.list []) = true := by simp [eqOk, PyData.depth, PyData.depthAll]
@[simp] theorem o_eqnn : op2 .eq (.tuple []) (.tuple []) = some (.bool true) := by rw [op2, if_pos (eqOk_nil _)]; rfl
@[simp] theorem o_nenn : op2 .ne (.tuple []) (.tuple []) = some (.bool false) := by rw [op2, if_pos (eqOk_nil _)]; rfl
@[simp] theorem o_eqcn {a : D} {r : List D} : op2 .eq (.tuple (a :: r)) (.tuple []) = some (.bool false) := by rw [op2, if_pos (eqOk_nil _)]; rfl
@[simp] theorem o_necn {a : D} {r : List D} : op2 .ne (.tuple (a :: r)) (.tuple []) = some (.bool true) := by rw [op2, if_pos (eqOk_nil _)]; rfl
@[simp] theorem o_eqin {a : Int} : op2 .eq (.int a) (.tuple []) = some (.bool false) := by rw [op2, if_pos (eqOk_nil _)]; rfl
@[simp] theorem o_eqLnn : op2 .eq (.list []) (.list []) = some (.bool true) := by rw [op2, if_pos (eqOk_nilL _)]; rfl
@[simp] theorem o_eqLcn {a : D} {r : List D} : op2 .eq (.list (a :: r)) (.list []) = some (.bool false) := by rw [op2, if_pos (eqOk_nilL _)]; rfl
theorem eqv_nil (t : T) : PyData.eqv (enc t) (.tuple []) = t.isNil := by cases t <;> rfl
theorem eqv_nilR (t : RT) : PyData.eqv (encR t) (.tuple []) = t.isNil := by cases t <;> rfl
@[simp] theorem o_eqT {t : T} : op2 .eq (enc t) (.tuple []) = some (.bool t.isNil) := by rw [op2, if_pos (eqOk_nil _), eqv_nil]
@[simp] theorem o_neT {t : T} : op2 .ne (enc t) (.tuple []) = some (.bool !t.isNil) := by rw [op2, if_pos (eqOk_nil _), eqv_nil]
@[simp] theorem o_eqR {t : RT} : op2 .eq (encR t) (.tuple []) = some (.bool t.isNil) := by rw [op2, if_pos (eqOk_nil _), eqv_nilR]
@[simp] theorem o_neR {t : RT} : op2 .ne (encR t) (.tuple []) = some (.bool !t.isNil) := by rw [op2, if_pos (eqOk_nil _), eqv_nilR]
@[simp] theorem enc_nil : enc .nil = .tuple [] := rfl
@[simp] theorem enc_node (l : T) (k : Int) (r : T) : enc (.node l k r) = .tuple [enc l, .int k, enc r] := rfl
@[simp] theorem encR_nil : encR .nil = .tuple [] := rfl
@[simp] theorem encR_node (l : RT) (k : Int) (r : RT) (y : Int) : encR (.node l k r y) = .tuple [encR l, .int k, encR r, .int y] := rfl
theorem at_nat {α : Type} (xs : List α) (j : Nat) (a : α) (h : xs[j]? = some a) : atI xs (j : Int) = some a := atI_nat h
@[simp] theorem at0 {a : D} {r : List D} : atI (a :: r) 0 = some a := at_nat _ 0 a rfl
@[simp] theorem at1 {a b : D} {r : List D} : atI (a :: b :: r) 1 = some b := at_nat _ 1 b rfl
@[simp] theorem at2 {a b c : D} {r : List D} : atI (a :: b :: c :: r) 2 = some c := at_nat _ 2 c rfl
@[simp] theorem at3 {a b c d : D} {r : List D} : atI (a :: b :: c :: d :: r) 3 = some d := at_nat _ 3 d rfl
@[simp] theorem o_ix {x : D} {i : Int} : op2 .ix x (.int i) = (seqOf x).bind fun ds => atI ds i := rfl
theorem o_inn {x y : D} : op2 .inn x y = (seqOf y).bind fun ds => if flatD x && ds.all flatD then some (.bool (inD x ds)) else none := rfl
@[simp] theorem gv_most : gval .MOST = .int 6 := rfl
@[simp] theorem gv_deeds : gval .DEEDS = .int 40 := rfl
@[simp] theorem isN_nil : isNil .nil = true := rfl
@[simp] theorem isN_neg {a : C} : isNil (.neg a) = false := rfl
@[simp] theorem isN_var {a : Nat} : isNil (.var a) = false := rfl
@[simp] theorem isN_cst {a : D} : isNil (.cst a) = false := rfl
@[simp] theorem isN_b2 {b : B2} {a c : C} : isNil (.b2 b a c) = false := rfl
@[simp] theorem isN_and {a c : C} : isNil (.and a c) = false := rfl
@[simp] theorem T_isNil_nil : T.nil.isNil = true := rfl
@[simp] theorem T_isNil_node {l : T} {k : Int} {r : T} : (T.node l k r).isNil = false := rfl
@[simp] theorem RT_isNil_nil : RT.nil.isNil = true := rfl
@[simp] theorem RT_isNil_node {l : RT} {k : Int} {r : RT} {y : Int} : (RT.node l k r y).isNil = false := rfl
theorem keys_len : ∀ t : T, t.keys.length = t.size
  | .nil => rfl
  | .node l k r => by simp [T.keys, T.size, keys_len l, keys_len r]; omega
theorem ht_le : ∀ t : T, t.ht ≤ t.size
  | .nil => Nat.le_refl _
  | .node l k r => by
    have := ht_le l
    have := ht_le r
    simp only [T.ht, T.size]
    omega
end TT
set_option Elab.async false
set_option linter.all false
/-! Search trees: what is kept, what is there. -/
namespace TT
open PySem
theorem mem_node {l r : T} {x y : Int} : y ∈ (T.node l x r).keys ↔ y ∈ l.keys ∨ y = x ∨ y ∈ r.keys := by
  simp [T.keys]
theorem not_mem_nil {y : Int} : ¬ y ∈ T.nil.keys := by simp [T.keys]
def Bst : T → Prop
  | .nil => True
  | .node l x r => Bst l ∧ Bst r ∧ (∀ y ∈ l.keys, y < x) ∧ (∀ y ∈ r.keys, x < y)
theorem bst_iff : ∀ t : T, Bst t ↔ t.keys.Pairwise (· < ·)
  | .nil => by simp [Bst, T.keys]
  | .node l x r => by
    have h1 := bst_iff l
    have h2 := bst_iff r
    simp only [Bst, T.keys, List.pairwise_append, List.pairwise_cons, List.mem_singleton, List.mem_append, List.append_assoc, List.singleton_append, List.mem_cons, h1, h2]
    constructor
    · rintro ⟨a, b, c, d⟩
      refine ⟨a, ⟨d, b⟩, fun y hy z hz => ?_⟩
      rcases hz with e | hz
      · rw [e]; exact c y hy
      · exact Int.lt_trans (c y hy) (d z hz)
    · rintro ⟨a, ⟨d, b⟩, c⟩
      exact ⟨a, b, fun y hy => c y hy x (.inl rfl), d⟩
theorem Bst.congr {t u : T} (h : Bst t) (e : u.keys = t.keys) : Bst u := by
  rw [bst_iff] at h ⊢
  rw [e]; exact h
theorem size_congr {t u : T} (e : u.keys = t.keys) : u.size = t.size := by rw [← keys_len, ← keys_len, e]
theorem leftUp_keys : ∀ t : T, (leftUp t).keys = t.keys
  | .nil => rfl
  | .node .nil _ _ => rfl
  | .node (.node a j b) k r => by simp [leftUp, T.keys]
theorem rightUp_keys : ∀ t : T, (rightUp t).keys = t.keys
  | .nil => rfl
  | .node _ _ .nil => rfl
  | .node l k (.node a j b) => by simp [rightUp, T.keys]
theorem keys_node {l l' r r' : T} {x : Int} (h1 : l'.keys = l.keys) (h2 : r'.keys = r.keys) : (T.node l' x r').keys = (T.node l x r).keys := by
  simp only [T.keys, h1, h2]
theorem turned_keys : ∀ (t : T) (k : Int), (turned t k).keys = t.keys
  | .nil, _ => rfl
  | .node l x r, k => by
    unfold turned
    split
    · split
      · exact leftUp_keys _
      · exact keys_node (turned_keys l k) rfl
    · split
      · exact rightUp_keys _
      · exact keys_node rfl (turned_keys r k)
theorem setRight_keys (h : Bool) : ∀ t : T, (setRight h t).keys = t.keys
  | .nil => rfl
  | .node l k r => by
    rw [setRight]
    split
    · rw [leftUp_keys]
      refine keys_node ?_ rfl
      split
      · exact rightUp_keys _
      · rfl
    · split
      · rw [rightUp_keys]
        refine keys_node rfl ?_
        split
        · exact leftUp_keys _
        · rfl
      · rfl
theorem putRight_keys (h : Bool) : ∀ (t : T) (k : Int), (putRight h t k).keys = (withLeaf t k).keys
  | .nil, _ => rfl
  | .node l x r, k => by
    unfold putRight withLeaf
    split
    · rw [setRight_keys]
      exact keys_node (putRight_keys h l k) rfl
    · rw [setRight_keys]
      exact keys_node rfl (putRight_keys h r k)
theorem takeRight_keys (h : Bool) : ∀ (t : T) (k : Int), (takeRight h t k).keys = (without t k).keys
  | .nil, _ => rfl
  | .node l x r, k => by
    unfold takeRight without
    split
    · rw [setRight_keys]
      exact keys_node (takeRight_keys h l k) rfl
    · split
      · rw [setRight_keys]
        exact keys_node rfl (takeRight_keys h r k)
      · split
        · rfl
        · rw [setRight_keys]
          exact keys_node rfl (takeRight_keys h r _)
theorem onceUp_keys (t : T) (k : Int) : (onceUp t k).keys = t.keys := by
  unfold onceUp
  split
  · rfl
  · exact turned_keys _ _
theorem toTop_keys : ∀ (n : Nat) (t : T) (k : Int), (toTop n t k).keys = t.keys
  | 0, _, _ => rfl
  | n + 1, t, k => by
    unfold toTop
    split
    · rfl
    · rw [toTop_keys n, turned_keys]
theorem stepUp_keys (t : T) (k : Int) : (stepUp t k).keys = t.keys := by
  unfold stepUp
  simp only [turned_keys]
theorem splayN_keys : ∀ (n : Nat) (t : T) (k : Int), (splayN n t k).keys = t.keys
  | 0, _, _ => rfl
  | n + 1, t, k => by
    unfold splayN
    split
    · rw [splayN_keys n, stepUp_keys]
    · rfl
theorem splayed_keys (t : T) (k : Int) : (splayed t k).keys = t.keys := by
  unfold splayed
  rw [onceUp_keys, splayN_keys]
theorem withLeaf_mem {y : Int} : ∀ (t : T) (k : Int), y ∈ (withLeaf t k).keys ↔ y = k ∨ y ∈ t.keys
  | .nil, k => by simp [withLeaf, T.keys]
  | .node l x r, k => by
    unfold withLeaf
    split
    · rw [mem_node, mem_node, withLeaf_mem l k]
      constructor
      · rintro ((a | a) | a | a)
        · exact .inl a
        · exact .inr (.inl a)
        · exact .inr (.inr (.inl a))
        · exact .inr (.inr (.inr a))
      · rintro (a | a | a | a)
        · exact .inl (.inl a)
        · exact .inl (.inr a)
        · exact .inr (.inl a)
        · exact .inr (.inr a)
    · rw [mem_node, mem_node, withLeaf_mem r k]
      constructor
      · rintro (a | a | a | a)
        · exact .inr (.inl a)
        · exact .inr (.inr (.inl a))
        · exact .inl a
        · exact .inr (.inr (.inr a))
      · rintro (a | a | a | a)
        · exact .inr (.inr (.inl a))
        · exact .inl a
        · exact .inr (.inl a)
        · exact .inr (.inr (.inr a))
theorem withLeaf_bst : ∀ (t : T) (k : Int), Bst t → ¬ k ∈ t.keys → Bst (withLeaf t k)
  | .nil, k, _, _ => ⟨trivial, trivial, fun _ h => absurd h not_mem_nil, fun _ h => absurd h not_mem_nil⟩
  | .node l x r, k, ⟨h1, h2, h3, h4⟩, hk => by
    rw [mem_node] at hk
    unfold withLeaf
    split
    · rename_i c
      refine ⟨withLeaf_bst l k h1 (fun h => hk (.inl h)), h2, fun y hy => ?_, h4⟩
      rcases (withLeaf_mem l k).mp hy with e | hy
      · rw [e]; exact c
      · exact h3 y hy
    · rename_i c
      refine ⟨h1, withLeaf_bst r k h2 (fun h => hk (.inr (.inr h))), h3, fun y hy => ?_⟩
      rcases (withLeaf_mem r k).mp hy with e | hy
      · have : k ≠ x := fun e => hk (.inr (.inl e))
        omega
      · exact h4 y hy
theorem withLeaf_size : ∀ (t : T) (k : Int), (withLeaf t k).size = t.size + 1
  | .nil, _ => rfl
  | .node l x r, k => by
    unfold withLeaf
    split
    · simp only [T.size, withLeaf_size l k]; omega
    · simp only [T.size, withLeaf_size r k]; omega
theorem isNil_eq : ∀ {t : T}, t.isNil = true → t = .nil
  | .nil, _ => rfl
  | .node _ _ _, h => nomatch h
theorem least_mem : ∀ {t : T}, t.isNil = false → least t ∈ t.keys
  | .nil, h => nomatch h
  | .node l k r, _ => by
    unfold least
    split
    · exact mem_node.mpr (.inr (.inl rfl))
    · rename_i c
      exact mem_node.mpr (.inl (least_mem (by simpa using c)))
theorem least_le : ∀ {t : T}, Bst t → ∀ y ∈ t.keys, least t ≤ y
  | .nil, _, y, h => absurd h not_mem_nil
  | .node l k r, ⟨h1, h2, h3, h4⟩, y, h => by
    unfold least
    rw [mem_node] at h
    split
    · rename_i c
      rw [isNil_eq c] at h
      rcases h with h | h | h
      · exact absurd h not_mem_nil
      · omega
      · exact Int.le_of_lt (h4 y h)
    · rename_i c
      have m := h3 _ (least_mem (t := l) (by simpa using c))
      rcases h with h | h | h
      · exact least_le h1 y h
      · omega
      · have := h4 y h
        omega
theorem greatest_mem : ∀ {t : T}, t.isNil = false → greatest t ∈ t.keys
  | .nil, h => nomatch h
  | .node l k r, _ => by
    unfold greatest
    split
    · exact mem_node.mpr (.inr (.inl rfl))
    · rename_i c
      exact mem_node.mpr (.inr (.inr (greatest_mem (by simpa using c))))
theorem greatest_ge : ∀ {t : T}, Bst t → ∀ y ∈ t.keys, y ≤ greatest t
  | .nil, _, y, h => absurd h not_mem_nil
  | .node l k r, ⟨h1, h2, h3, h4⟩, y, h => by
    unfold greatest
    rw [mem_node] at h
    split
    · rename_i c
      rw [isNil_eq c] at h
      rcases h with h | h | h
      · exact Int.le_of_lt (h3 y h)
      · omega
      · exact absurd h not_mem_nil
    · rename_i c
      have m := h4 _ (greatest_mem (t := r) (by simpa using c))
      rcases h with h | h | h
      · have := h3 y h
        omega
      · omega
      · exact greatest_ge h2 y h
theorem without_mem {y : Int} : ∀ (t : T) (k : Int), Bst t → k ∈ t.keys → (y ∈ (without t k).keys ↔ y ∈ t.keys ∧ y ≠ k)
  | .nil, _, _, h => absurd h not_mem_nil
  | .node l x r, k, ⟨h1, h2, h3, h4⟩, hk => by
    rw [mem_node] at hk
    unfold without
    split
    · rename_i c
      have hk' : k ∈ l.keys := by
        rcases hk with h | h | h
        · exact h
        · omega
        · have := h4 k h; omega
      rw [mem_node, mem_node, without_mem l k h1 hk']
      constructor
      · rintro (⟨a, b⟩ | a | a)
        · exact ⟨.inl a, b⟩
        · exact ⟨.inr (.inl a), by omega⟩
        · exact ⟨.inr (.inr a), by have := h4 y a; omega⟩
      · rintro ⟨a | a | a, b⟩
        · exact .inl ⟨a, b⟩
        · exact .inr (.inl a)
        · exact .inr (.inr a)
    · split
      · rename_i c0 c
        have hk' : k ∈ r.keys := by
          rcases hk with h | h | h
          · have := h3 k h; omega
          · omega
          · exact h
        rw [mem_node, mem_node, without_mem r k h2 hk']
        constructor
        · rintro (a | a | ⟨a, b⟩)
          · exact ⟨.inl a, by have := h3 y a; omega⟩
          · exact ⟨.inr (.inl a), by omega⟩
          · exact ⟨.inr (.inr a), b⟩
        · rintro ⟨a | a | a, b⟩
          · exact .inl a
          · exact .inr (.inl a)
          · exact .inr (.inr ⟨a, b⟩)
      · rename_i c0 c
        have e : k = x := by omega
        subst e
        split
        · rename_i cn
          split
          · rename_i cr
            rw [mem_node, isNil_eq cr]
            constructor
            · exact fun a => ⟨.inl a, by have := h3 y a; omega⟩
            · rintro ⟨a | a | a, b⟩
              · exact a
              · exact absurd a b
              · exact absurd a not_mem_nil
          · rename_i cr
            have cl : l.isNil = true := by
              rcases Bool.or_eq_true _ _ ▸ cn with h | h
              · exact h
              · exact absurd h cr
            rw [mem_node, isNil_eq cl]
            constructor
            · exact fun a => ⟨.inr (.inr a), by have := h4 y a; omega⟩
            · rintro ⟨a | a | a, b⟩
              · exact absurd a not_mem_nil
              · exact absurd a b
              · exact a
        · rename_i cn
          have cr : r.isNil = false := by
            cases q : r.isNil
            · rfl
            · rw [q, Bool.or_true] at cn
              exact absurd rfl cn
          have lm := least_mem cr
          rw [mem_node, mem_node, without_mem r _ h2 lm]
          constructor
          · rintro (a | a | ⟨a, b⟩)
            · exact ⟨.inl a, by have := h3 y a; omega⟩
            · rw [a]; exact ⟨.inr (.inr lm), by have := h4 _ lm; omega⟩
            · exact ⟨.inr (.inr a), by have := h4 y a; omega⟩
          · rintro ⟨a | a | a, b⟩
            · exact .inl a
            · exact absurd a b
            · by_cases q : y = least r
              · exact .inr (.inl q)
              · exact .inr (.inr ⟨a, q⟩)
theorem without_bst : ∀ (t : T) (k : Int), Bst t → k ∈ t.keys → Bst (without t k)
  | .nil, _, _, h => absurd h not_mem_nil
  | .node l x r, k, ⟨h1, h2, h3, h4⟩, hk => by
    rw [mem_node] at hk
    unfold without
    split
    · rename_i c
      have hk' : k ∈ l.keys := by
        rcases hk with h | h | h
        · exact h
        · omega
        · have := h4 k h; omega
      exact ⟨without_bst l k h1 hk', h2, fun y hy => h3 y ((without_mem l k h1 hk').mp hy).1, h4⟩
    · split
      · rename_i c0 c
        have hk' : k ∈ r.keys := by
          rcases hk with h | h | h
          · have := h3 k h; omega
          · omega
          · exact h
        exact ⟨h1, without_bst r k h2 hk', h3, fun y hy => h4 y ((without_mem r k h2 hk').mp hy).1⟩
      · split
        · split
          · exact h1
          · exact h2
        · rename_i cn
          have cr : r.isNil = false := by
            cases q : r.isNil
            · rfl
            · rw [q, Bool.or_true] at cn
              exact absurd rfl cn
          have lm := least_mem cr
          refine ⟨h1, without_bst r _ h2 lm, fun y hy => ?_, fun y hy => ?_⟩
          · have := h3 y hy
            have := h4 _ lm
            omega
          · obtain ⟨a, b⟩ := (without_mem r _ h2 lm).mp hy
            have := least_le h2 y a
            omega
theorem without_size : ∀ (t : T) (k : Int), (without t k).size ≤ t.size
  | .nil, _ => Nat.le_refl _
  | .node l x r, k => by
    have h1 := without_size l k
    have h2 := without_size r k
    have h3 := without_size r (least r)
    unfold without
    split
    · simp only [T.size]; omega
    · split
      · simp only [T.size]; omega
      · split
        · split <;> simp only [T.size] <;> omega
        · simp only [T.size]; omega
/-- which side a key lies on -/
theorem in_left {l r : T} {x k : Int} (h : Bst (.node l x r)) (hk : k ∈ (T.node l x r).keys) (c : k < x) : k ∈ l.keys := by
  rcases mem_node.mp hk with h1 | h1 | h1
  · exact h1
  · omega
  · have := h.2.2.2 k h1; omega
theorem in_right {l r : T} {x k : Int} (h : Bst (.node l x r)) (hk : k ∈ (T.node l x r).keys) (c : x < k) : k ∈ r.keys := by
  rcases mem_node.mp hk with h1 | h1 | h1
  · have := h.2.2.1 k h1; omega
  · omega
  · exact h1
theorem not_nil_of {t : T} {k : Int} (h : k ∈ t.keys) : t.isNil = false := by
  cases t with
  | nil => exact absurd h not_mem_nil
  | node _ _ _ => rfl
theorem way_le : ∀ (t : T) (k : Int), way t k ≤ t.size
  | .nil, _ => Nat.le_refl _
  | .node l x r, k => by
    have := way_le l k
    have := way_le r k
    unfold way
    simp only [T.size]
    split
    · omega
    · split <;> omega
theorem way_lt : ∀ (t : T) (k : Int), t.isNil = false → k ∈ t.keys → Bst t → way t k < t.size
  | .nil, _, h, _, _ => nomatch h
  | .node l x r, k, _, hk, hb => by
    unfold way
    simp only [T.size]
    split
    · omega
    · split
      · rename_i c0 c
        have hl := in_left hb hk c
        have := way_lt l k (not_nil_of hl) hl hb.1
        omega
      · rename_i c0 c
        have hl := in_right hb hk (by omega)
        have := way_lt r k (not_nil_of hl) hl hb.2.1
        omega
theorem path_len : ∀ (t : T) (k : Int), Bst t → k ∈ t.keys → (path t k).length = way t k + 1
  | .nil, _, _, h => absurd h not_mem_nil
  | .node l x r, k, hb, hk => by
    unfold path way
    split
    · rfl
    · split
      · rename_i c0 c
        rw [List.length_cons, path_len l k hb.1 (in_left hb hk c)]; omega
      · rename_i c0 c
        rw [List.length_cons, path_len r k hb.2.1 (in_right hb hk (by omega))]; omega
theorem path_len' : ∀ (t : T) (k : Int), Bst t → ¬ k ∈ t.keys → (path t k).length = way t k
  | .nil, _, _, _ => rfl
  | .node l x r, k, hb, hk => by
    rw [mem_node] at hk
    unfold path way
    split
    · rename_i c
      exact absurd (.inr (.inl c.symm)) hk
    · split
      · rw [List.length_cons, path_len' l k hb.1 (fun h => hk (.inl h))]; omega
      · rw [List.length_cons, path_len' r k hb.2.1 (fun h => hk (.inr (.inr h)))]; omega
theorem path_sub : ∀ (t : T) (k : Int) (y : Int), k ∈ t.keys → Bst t → y ∈ path t k → y ∈ t.keys
  | .nil, _, _, h, _, _ => absurd h not_mem_nil
  | .node l x r, k, y, hk, hb, h => by
    unfold path at h
    rw [mem_node]
    split at h
    · rename_i c
      rcases List.mem_cons.mp h with e | h
      · exact .inr (.inl (by rw [e]; exact c.symm))
      · cases h
    · split at h
      · rename_i c0 c
        rcases List.mem_cons.mp h with e | h
        · exact .inr (.inl e)
        · exact .inl (path_sub l k y (in_left hb hk c) hb.1 h)
      · rename_i c0 c
        rcases List.mem_cons.mp h with e | h
        · exact .inr (.inl e)
        · exact .inr (.inr (path_sub r k y (in_right hb hk (by omega)) hb.2.1 h))
end TT
set_option Elab.async false
set_option linter.all false
set_option maxRecDepth 100000
set_option maxHeartbeats 4000000
/-! What the program's defs give: shapes, rotations, plain deeds. -/
namespace TT
open PySem L2
@[simp] theorem o1_isi {t : Ty} {d : D} : op1 (.isi t) d = some (.bool (isTy t d)) := by cases d <;> rfl
@[simp] theorem o1_lenL {ds : List D} : op1 .len (.list ds) = some (.int ds.length) := rfl
@[simp] theorem o1_lenT {ds : List D} : op1 .len (.tuple ds) = some (.int ds.length) := rfl
@[simp] theorem isTy_int {i : Int} : isTy .int (.int i) = true := rfl
@[simp] theorem isTy_boolint {i : Int} : isTy .bool (.int i) = false := rfl
@[simp] theorem isTy_tuple {i : List D} : isTy .tuple (.tuple i) = true := rfl
@[simp] theorem isTy_list {i : List D} : isTy .list (.list i) = true := rfl
@[simp] theorem isTy_str {i : Str} : isTy .str (.str i) = true := rfl
theorem up {n c : Nat} (h : c + 1 ≤ n) : ∃ m, n = m + 1 ∧ c ≤ m := ⟨n - 1, by omega, by omega⟩
theorem v_is_number {a lo hi : Int} {n : Nat} (hn : 1 ≤ n) : callD n .is_number [.int a, .int lo, .int hi] = some (.bool (decide (lo ≤ a ∧ a ≤ hi))) := by
  obtain ⟨m, rfl, hm⟩ := up (c := 0) hn
  refine k_is_number ?_
  simp [c_is_number]
  by_cases h : lo ≤ a <;> simp [h]
theorem v_is_between : ∀ (t : T) (lo hi : Int) (n : Nat), t.size + 2 ≤ n → Bst t → (∀ y ∈ t.keys, lo ≤ y ∧ y ≤ hi) → callD n .is_between [enc t, .int lo, .int hi] = some (.bool true) := by
  intro t
  induction t with
  | nil =>
    intro lo hi n hn _ _
    obtain ⟨m, rfl, hm⟩ := up (c := 1) hn
    refine k_is_between ?_
    simp [c_is_between]
  | node l x r ihl ihr =>
    intro lo hi n hn hb hk
    simp only [T.size] at hn
    obtain ⟨h1, h2, h3, h4⟩ := hb
    obtain ⟨m, rfl, hm⟩ := up (c := l.size + r.size + 2) (n := n) (by omega)
    have e1 := ihl lo (x - 1) m (by clear ihl ihr; omega) h1 fun y hy => ⟨(hk y (mem_node.mpr (.inl hy))).1, by have := h3 y hy; omega⟩
    have e2 := ihr (x + 1) hi m (by omega) h2 fun y hy => ⟨by have := h4 y hy; omega, (hk y (mem_node.mpr (.inr (.inr hy)))).2⟩
    have e3 := v_is_number (a := x) (lo := lo) (hi := hi) (n := m) (by omega)
    have hx := hk x (mem_node.mpr (.inr (.inl rfl)))
    refine k_is_between ?_
    simp [c_is_between, e1, e2, e3, hx.1, hx.2]
def Keys6 (t : T) : Prop := ∀ y ∈ t.keys, 1 ≤ y ∧ y ≤ 6
theorem v_is_shape {t : T} {n : Nat} (hn : t.size + 3 ≤ n) (hb : Bst t) (hk : Keys6 t) : callD n .is_shape [enc t] = some (.bool true) := by
  obtain ⟨m, rfl, hm⟩ := up (c := t.size + 2) hn
  refine k_is_shape ?_
  simp [c_is_shape, v_is_between t 1 6 m hm hb hk]
theorem v_need_shape {t : T} {n : Nat} (hn : t.size + 4 ≤ n) (hb : Bst t) (hk : Keys6 t) : callD n .need_shape [enc t] = some .none := by
  obtain ⟨m, rfl, hm⟩ := up (c := t.size + 3) hn
  refine k_need_shape ?_
  simp [c_need_shape, v_is_shape hm hb hk]
theorem v_keys_of : ∀ (t : T) (n : Nat), t.size + 1 ≤ n → t.size ≤ 500 → callD n .keys_of [enc t] = some (.list (t.keys.map PyData.int)) := by
  intro t
  induction t with
  | nil =>
    intro n hn _
    obtain ⟨m, rfl, hm⟩ := up (c := 0) hn
    refine k_keys_of ?_
    simp [c_keys_of, T.keys]
  | node l k r ihl ihr =>
    intro n hn hz
    simp only [T.size] at hn hz
    obtain ⟨m, rfl, hm⟩ := up (c := l.size + 1 + r.size) hn
    have z1 := keys_len l
    have z2 := keys_len r
    refine k_keys_of ?_
    simp [c_keys_of, ihl m (by omega) (by omega), ihr m (by omega) (by omega), T.keys]
    rw [if_pos (by omega)]
    simp
    rw [if_pos (by omega)]
    simp
theorem v_size_of : ∀ (t : T) (n : Nat), t.size + 1 ≤ n → callD n .size_of [enc t] = some (.int t.size) := by
  intro t
  induction t with
  | nil =>
    intro n hn
    obtain ⟨m, rfl, hm⟩ := up (c := 0) hn
    refine k_size_of ?_
    simp [c_size_of, T.size]
  | node l k r ihl ihr =>
    intro n hn
    simp only [T.size] at hn
    obtain ⟨m, rfl, hm⟩ := up (c := l.size + 1 + r.size) hn
    refine k_size_of ?_
    simp [c_size_of, ihl m (by omega), ihr m (by omega), T.size]
theorem v_height_of : ∀ (t : T) (n : Nat), t.size + 1 ≤ n → callD n .height_of [enc t] = some (.int t.ht) := by
  intro t
  induction t with
  | nil =>
    intro n hn
    obtain ⟨m, rfl, hm⟩ := up (c := 0) hn
    refine k_height_of ?_
    simp [c_height_of, T.ht]
  | node l k r ihl ihr =>
    intro n hn
    simp only [T.size] at hn
    obtain ⟨m, rfl, hm⟩ := up (c := l.size + 1 + r.size) hn
    refine k_height_of ?_
    simp [c_height_of, ihl m (by omega), ihr m (by omega), T.ht]
    by_cases h : l.ht < r.ht
    · rw [if_pos h]; omega
    · rw [if_neg h]; omega
theorem v_way_to : ∀ (t : T) (k : Int) (n : Nat), t.size + 1 ≤ n → callD n .way_to [enc t, .int k] = some (.int (way t k)) := by
  intro t
  induction t with
  | nil =>
    intro k n hn
    obtain ⟨m, rfl, hm⟩ := up (c := 0) hn
    refine k_way_to ?_
    simp [c_way_to, way]
  | node l x r ihl ihr =>
    intro k n hn
    simp only [T.size] at hn
    obtain ⟨m, rfl, hm⟩ := up (c := l.size + 1 + r.size) hn
    refine k_way_to ?_
    by_cases h : x = k
    · simp [c_way_to, way, h]
    · by_cases h2 : k < x
      · simp [c_way_to, way, h, h2, ihl k m (by omega)]
      · simp [c_way_to, way, h, h2, ihr k m (by omega)]
theorem v_left_up {a b r : T} {j k : Int} {n : Nat} (hn : 1 ≤ n) : callD n .left_up [.tuple [.tuple [enc a, .int j, enc b], .int k, enc r]] = some (.tuple [enc a, .int j, .tuple [enc b, .int k, enc r]]) := by
  obtain ⟨m, rfl, hm⟩ := up (c := 0) hn
  refine k_left_up ?_
  simp [c_left_up]
theorem v_right_up {a b l : T} {j k : Int} {n : Nat} (hn : 1 ≤ n) : callD n .right_up [.tuple [enc l, .int k, .tuple [enc a, .int j, enc b]]] = some (.tuple [.tuple [enc l, .int k, enc a], .int j, enc b]) := by
  obtain ⟨m, rfl, hm⟩ := up (c := 0) hn
  refine k_right_up ?_
  simp [c_right_up]
theorem v_turned : ∀ (t : T) (k : Int) (n : Nat), t.size + 1 ≤ n → Bst t → k ∈ t.keys → t.root ≠ k → callD n .turned [enc t, .int k] = some (enc (turned t k)) := by
  intro t
  induction t with
  | nil => intro k n _ _ hk; exact absurd hk not_mem_nil
  | node l x r ihl ihr =>
    intro k n hn hb hk hr
    simp only [T.size] at hn
    have hxk : x ≠ k := hr
    obtain ⟨m, rfl, hm⟩ := up (c := l.size + 1 + r.size) hn
    refine k_turned ?_
    by_cases c : k < x
    · have hl := in_left hb hk c
      cases l with
      | nil => exact absurd hl not_mem_nil
      | node a j b =>
        by_cases e : j = k
        · simp [c_turned, turned, c, rootIs, e, leftUp, v_left_up (n := m) (by omega)]
        · have := ihl k m (by omega) hb.1 hl e
          rw [enc_node] at this
          simp [c_turned, turned, c, rootIs, e, this]
    · have hl := in_right hb hk (by omega)
      cases r with
      | nil => exact absurd hl not_mem_nil
      | node a j b =>
        by_cases e : j = k
        · simp [c_turned, turned, c, rootIs, e, rightUp, v_right_up (n := m) (by omega)]
        · have := ihr k m (by omega) hb.2.1 hl e
          rw [enc_node] at this
          simp [c_turned, turned, c, rootIs, e, this]
theorem v_with_leaf : ∀ (t : T) (k : Int) (n : Nat), t.size + 1 ≤ n → callD n .with_leaf [enc t, .int k] = some (enc (withLeaf t k)) := by
  intro t
  induction t with
  | nil =>
    intro k n hn
    obtain ⟨m, rfl, hm⟩ := up (c := 0) hn
    refine k_with_leaf ?_
    simp [c_with_leaf, withLeaf]
  | node l x r ihl ihr =>
    intro k n hn
    simp only [T.size] at hn
    obtain ⟨m, rfl, hm⟩ := up (c := l.size + 1 + r.size) hn
    refine k_with_leaf ?_
    by_cases c : k < x
    · simp [c_with_leaf, withLeaf, c, ihl k m (by omega)]
    · simp [c_with_leaf, withLeaf, c, ihr k m (by omega)]
theorem v_least : ∀ (t : T) (n : Nat), t.size + 1 ≤ n → t.isNil = false → callD n .least [enc t] = some (.int (least t)) := by
  intro t
  induction t with
  | nil => intro n _ h; exact nomatch h
  | node l x r ihl ihr =>
    intro n hn _
    simp only [T.size] at hn
    obtain ⟨m, rfl, hm⟩ := up (c := l.size + 1 + r.size) hn
    refine k_least ?_
    cases hl : l.isNil with
    | true => simp [c_least, least, hl]
    | false => simp [c_least, least, hl, ihl m (by omega) hl]
theorem v_greatest : ∀ (t : T) (n : Nat), t.size + 1 ≤ n → t.isNil = false → callD n .greatest [enc t] = some (.int (greatest t)) := by
  intro t
  induction t with
  | nil => intro n _ h; exact nomatch h
  | node l x r ihl ihr =>
    intro n hn _
    simp only [T.size] at hn
    obtain ⟨m, rfl, hm⟩ := up (c := l.size + 1 + r.size) hn
    refine k_greatest ?_
    cases hl : r.isNil with
    | true => simp [c_greatest, greatest, hl]
    | false => simp [c_greatest, greatest, hl, ihr m (by omega) hl]
theorem v_without : ∀ (t : T) (k : Int) (n : Nat), t.size + 1 ≤ n → Bst t → k ∈ t.keys → callD n .without [enc t, .int k] = some (enc (without t k)) := by
  intro t
  induction t with
  | nil => intro k n _ _ hk; exact absurd hk not_mem_nil
  | node l x r ihl ihr =>
    intro k n hn hb hk
    simp only [T.size] at hn
    obtain ⟨m, rfl, hm⟩ := up (c := l.size + 1 + r.size) hn
    refine k_without ?_
    by_cases c : k < x
    · simp [c_without, without, c, ihl k m (by omega) hb.1 (in_left hb hk c)]
    · by_cases c2 : x < k
      · simp [c_without, without, c, c2, ihr k m (by omega) hb.2.1 (in_right hb hk c2)]
      · cases hl : l.isNil with
        | true => cases hr : r.isNil <;> simp [c_without, without, c, c2, hl, hr]
        | false =>
          cases hr : r.isNil with
          | true => simp [c_without, without, c, c2, hl, hr]
          | false => simp [c_without, without, c, c2, hl, hr, v_least r m (by omega) hr, ihr (least r) m (by omega) hb.2.1 (least_mem hr)]
theorem rootIs_iff {t : T} {k : Int} (h : t.isNil = false) : rootIs t k = decide (t.root = k) := by
  cases t with
  | nil => exact nomatch h
  | node l x r => rfl
theorem v_once_up {t : T} {k : Int} {n : Nat} (hn : t.size + 2 ≤ n) (hb : Bst t) (hk : k ∈ t.keys) : callD n .once_up [enc t, .int k] = some (enc (onceUp t k)) := by
  obtain ⟨m, rfl, hm⟩ := up (c := t.size + 1) hn
  refine k_once_up ?_
  cases t with
  | nil => exact absurd hk not_mem_nil
  | node l x r =>
    by_cases e : x = k
    · simp [c_once_up, onceUp, rootIs, e]
    · have := v_turned (.node l x r) k m hm hb hk e
      rw [enc_node] at this
      simp [c_once_up, onceUp, rootIs, e, this]
theorem way_turned : ∀ (t : T) (k : Int), Bst t → k ∈ t.keys → t.root ≠ k → way (turned t k) k + 1 = way t k := by
  intro t
  induction t with
  | nil => intro k _ hk; exact absurd hk not_mem_nil
  | node l x r ihl ihr =>
    intro k hb hk hr
    have hxk : x ≠ k := hr
    by_cases c : k < x
    · have hl := in_left hb hk c
      cases l with
      | nil => exact absurd hl not_mem_nil
      | node a j b =>
        by_cases e : j = k
        · simp [turned, c, rootIs, e, leftUp, way, hxk]
        · have := ihl k hb.1 hl e
          have h1 : way (.node (.node a j b) x r) k = 1 + way (.node a j b) k := by rw [way]; simp [hxk, c]
          have h2 : turned (.node (.node a j b) x r) k = .node (turned (.node a j b) k) x r := by rw [turned]; simp [c, rootIs, e]
          rw [h1, h2, way]
          simp [hxk, c]
          omega
    · have hl := in_right hb hk (by omega)
      cases r with
      | nil => exact absurd hl not_mem_nil
      | node a j b =>
        by_cases e : j = k
        · simp [turned, c, rootIs, e, rightUp, way, hxk]
        · have := ihr k hb.2.1 hl e
          have h1 : way (.node l x (.node a j b)) k = 1 + way (.node a j b) k := by rw [way]; simp [hxk, c]
          have h2 : turned (.node l x (.node a j b)) k = .node l x (turned (.node a j b) k) := by rw [turned]; simp [c, rootIs, e]
          rw [h1, h2, way]
          simp [hxk, c]
          omega
theorem v_top_go : ∀ (f : Nat) (t : T) (k : Int) (n : Nat), t.size + 1 ≤ n → Bst t → k ∈ t.keys → way t k + 1 ≤ f →
    whileGo (fun ρ => (ev ⟨callD n, lvD n⟩ (.b2 .ne (.b2 .ix (.var 0) (.cst (.int 1))) (.var 1)) ρ).bind asB) (fun ρ => evS ⟨callD n, lvD n⟩ (.set 0 (.call .turned (.cons (.var 0) (.cons (.var 1) .nil))) .nil) ρ) f [some (enc t), some (.int k)] = some (.nx [some (enc (toTop (f - 1) t k)), some (.int k)]) := by
  intro f
  induction f with
  | zero => intro t k n _ _ _ h; omega
  | succ f ih =>
    intro t k n hn hb hk hf
    cases t with
    | nil => exact absurd hk not_mem_nil
    | node l x r =>
      by_cases e : x = k
      · have : toTop (f + 1 - 1) (.node l x r) k = .node l x r := by
          cases f with
          | zero => rfl
          | succ f => simp [toTop, rootIs, e]
        rw [this, whileGo]
        simp [e]
      · have hv := v_turned (.node l x r) k n hn hb hk e
        have hw := way_turned (.node l x r) k hb hk e
        rw [enc_node] at hv
        have h2 := ih (turned (.node l x r) k) k n (by rw [size_congr (turned_keys _ _)]; exact hn) (hb.congr (turned_keys _ _)) (by rw [turned_keys]; exact hk) (by omega)
        rw [whileGo]
        simp [e, hv]
        have h3 : toTop f (.node l x r) k = toTop (f - 1) (turned (.node l x r) k) k := by
          cases f with
          | zero => omega
          | succ f => simp [toTop, rootIs, e]
        rw [h3]
        simpa using h2
theorem v_to_top {t : T} {k : Int} {n : Nat} (hn : t.size + 2 ≤ n) (hz : t.size ≤ 60) (hb : Bst t) (hk : k ∈ t.keys) : callD n .to_top [enc t, .int k] = some (enc (toTop 63 t k)) := by
  obtain ⟨m, rfl, hm⟩ := up (c := t.size + 1) hn
  have h := v_top_go 64 t k m hm hb hk (by have := way_le t k; omega)
  refine k_to_top ?_
  rw [c_to_top, s_whl, h]
  simp
theorem v_way_down : ∀ (t : T) (k : Int) (n : Nat), t.size + 1 ≤ n → t.size ≤ 500 → Bst t → k ∈ t.keys → callD n .way_down [enc t, .int k] = some (.list ((path t k).map PyData.int)) := by
  intro t
  induction t with
  | nil => intro k n _ _ _ hk; exact absurd hk not_mem_nil
  | node l x r ihl ihr =>
    intro k n hn hz hb hk
    simp only [T.size] at hn hz
    obtain ⟨m, rfl, hm⟩ := up (c := l.size + 1 + r.size) hn
    refine k_way_down ?_
    by_cases e : x = k
    · simp [c_way_down, path, e]
    · by_cases c : k < x
      · have h1 := path_len l k hb.1 (in_left hb hk c)
        have h2 := way_le l k
        simp [c_way_down, path, e, c, ihl k m (by omega) (by omega) hb.1 (in_left hb hk c)]
        rw [if_pos (by omega)]
        simp
      · have hi := in_right hb hk (by omega)
        have h1 := path_len r k hb.2.1 hi
        have h2 := way_le r k
        simp [c_way_down, path, e, c, ihr k m (by omega) (by omega) hb.2.1 hi]
        rw [if_pos (by omega)]
        simp
end TT
set_option Elab.async false
set_option linter.all false
set_option maxRecDepth 100000
set_option maxHeartbeats 4000000
/-! Splaying: its math, what the program's defs give. -/
namespace TT
open PySem L2
def par (t : T) (k : Int) : Int := (path t k).getD ((path t k).length - 2) 0
def gra (t : T) (k : Int) : Int := (path t k).getD ((path t k).length - 3) 0
theorem getD_mem {ws : List Int} {i : Nat} (h : i < ws.length) : ws.getD i 0 ∈ ws := by
  rw [List.getD_eq_getElem?_getD, List.getElem?_eq_getElem h]
  exact List.getElem_mem h
theorem getD_cons {ws : List Int} {x : Int} {i : Nat} (h : 1 ≤ i) : (x :: ws).getD i 0 = ws.getD (i - 1) 0 := by
  obtain ⟨j, rfl⟩ : ∃ j, i = j + 1 := ⟨i - 1, by omega⟩
  rfl
theorem way_pos {l r : T} {x k : Int} (h : 1 ≤ way (.node l x r) k) : x ≠ k := by
  intro e
  unfold way at h
  rw [if_pos e] at h
  omega
theorem par_side {l r : T} {x k : Int} (hb : Bst (.node l x r)) (hk : k ∈ (T.node l x r).keys) (h : 2 ≤ way (.node l x r) k) :
    (k < x ∧ par (.node l x r) k = par l k ∧ 1 ≤ way l k) ∨ (x < k ∧ par (.node l x r) k = par r k ∧ 1 ≤ way r k) := by
  have hx := way_pos (l := l) (r := r) (x := x) (k := k) (by omega)
  by_cases c : k < x
  · refine .inl ⟨c, ?_, ?_⟩
    · have w : way (.node l x r) k = 1 + way l k := by rw [way]; simp [hx, c]
      have hl := in_left hb hk c
      have pl := path_len l k hb.1 hl
      have pe : path (.node l x r) k = x :: path l k := by rw [path]; simp [hx, c]
      unfold par
      rw [pe, List.length_cons, getD_cons (by omega)]
      congr 1 <;> omega
    · rw [way] at h; simp [hx, c] at h; omega
  · refine .inr ⟨by omega, ?_, ?_⟩
    · have w : way (.node l x r) k = 1 + way r k := by rw [way]; simp [hx, c]
      have hl := in_right hb hk (by omega)
      have pl := path_len r k hb.2.1 hl
      have pe : path (.node l x r) k = x :: path r k := by rw [path]; simp [hx, c]
      unfold par
      rw [pe, List.length_cons, getD_cons (by omega)]
      congr 1 <;> omega
    · rw [way] at h; simp [hx, c] at h; omega
theorem par_path {t : T} {k : Int} (hb : Bst t) (hk : k ∈ t.keys) (h : 1 ≤ way t k) : par t k ∈ path t k := by
  have := path_len t k hb hk
  exact getD_mem (by omega)
theorem par_ne : ∀ (t : T) (k : Int), Bst t → k ∈ t.keys → 1 ≤ way t k → par t k ≠ k := by
  intro t
  induction t with
  | nil => intro k _ hk; exact absurd hk not_mem_nil
  | node l x r ihl ihr =>
    intro k hb hk h
    have hx := way_pos h
    by_cases h2 : 2 ≤ way (.node l x r) k
    · rcases par_side hb hk h2 with ⟨c, e, w⟩ | ⟨c, e, w⟩
      · rw [e]; exact ihl k hb.1 (in_left hb hk c) w
      · rw [e]; exact ihr k hb.2.1 (in_right hb hk c) w
    · have w1 : way (.node l x r) k = 1 := by omega
      have pl := path_len _ k hb hk
      have : par (.node l x r) k = x := by
        unfold par
        rw [pl, w1]
        have : ∃ ws, path (.node l x r) k = x :: ws := by
          rw [path]
          by_cases c : k < x <;> simp [hx, c]
        obtain ⟨ws, e⟩ := this
        rw [e]
        rfl
      rw [this]
      exact hx
theorem par_root {t : T} {k : Int} (hb : Bst t) (hk : k ∈ t.keys) (h : 2 ≤ way t k) : par t k ≠ t.root := by
  cases t with
  | nil => exact absurd hk not_mem_nil
  | node l x r =>
    rcases par_side hb hk h with ⟨c, e, w⟩ | ⟨c, e, w⟩
    · have hl := in_left hb hk c
      have := hb.2.2.1 _ (path_sub l k _ hl hb.1 (par_path hb.1 hl w))
      rw [e]
      show par l k ≠ x
      omega
    · have hl := in_right hb hk c
      have := hb.2.2.2 _ (path_sub r k _ hl hb.2.1 (par_path hb.2.1 hl w))
      rw [e]
      show par r k ≠ x
      omega
theorem way_anc : ∀ (t : T) (k p : Int), Bst t → k ∈ t.keys → p ∈ path t k → p ≠ t.root → way (turned t p) k ≤ way t k := by
  intro t
  induction t with
  | nil => intro k p _ hk; exact absurd hk not_mem_nil
  | node l x r ihl ihr =>
    intro k p hb hk hp hr
    have hpx : p ≠ x := hr
    rw [path] at hp
    by_cases hx : x = k
    · simp [hx] at hp
      exact absurd (hp.trans hx.symm) hpx
    · by_cases c : k < x
      · simp [hx, c, hpx] at hp
        have hl := in_left hb hk c
        have hpl := path_sub l k p hl hb.1 hp
        have hlt := hb.2.2.1 p hpl
        cases l with
        | nil => exact absurd hl not_mem_nil
        | node a j b =>
          by_cases e : j = p
          · subst e
            have h1 : turned (.node (.node a j b) x r) j = .node a j (.node b x r) := by rw [turned]; simp [hlt, rootIs, leftUp]
            have h2 : way (.node (.node a j b) x r) k = 1 + way (.node a j b) k := by rw [way]; simp [hx, c]
            rw [h1, h2]
            by_cases e1 : j = k
            · have h5 : way (.node a j (.node b x r)) k = 0 := by rw [way]; simp [e1]
              omega
            · by_cases e2 : k < j
              · have h4 : way (.node a j b) k = 1 + way a k := by rw [way]; simp [e1, e2]
                have h5 : way (.node a j (.node b x r)) k = 1 + way a k := by rw [way]; simp [e1, e2]
                omega
              · have h4 : way (.node a j b) k = 1 + way b k := by rw [way]; simp [e1, e2]
                have h5 : way (.node a j (.node b x r)) k = 1 + way (.node b x r) k := by rw [way]; simp [e1, e2]
                have h6 : way (.node b x r) k = 1 + way b k := by rw [way]; simp [hx, c]
                omega
          · have := ihl k p hb.1 hl hp (fun h => e h.symm)
            have h1 : turned (.node (.node a j b) x r) p = .node (turned (.node a j b) p) x r := by rw [turned]; simp [hlt, rootIs, e]
            have h2 : way (.node (.node a j b) x r) k = 1 + way (.node a j b) k := by rw [way]; simp [hx, c]
            have h3 : way (.node (turned (.node a j b) p) x r) k = 1 + way (turned (.node a j b) p) k := by rw [way]; simp [hx, c]
            rw [h1, h2, h3]
            omega
      · simp [hx, c, hpx] at hp
        have hl := in_right hb hk (by omega)
        have hpl := path_sub r k p hl hb.2.1 hp
        have hlt := hb.2.2.2 p hpl
        have hnl : ¬ p < x := by omega
        cases r with
        | nil => exact absurd hl not_mem_nil
        | node a j b =>
          by_cases e : j = p
          · subst e
            have h1 : turned (.node l x (.node a j b)) j = .node (.node l x a) j b := by rw [turned]; simp [hnl, rootIs, rightUp]
            have h2 : way (.node l x (.node a j b)) k = 1 + way (.node a j b) k := by rw [way]; simp [hx, c]
            rw [h1, h2]
            by_cases e1 : j = k
            · have h5 : way (.node (.node l x a) j b) k = 0 := by rw [way]; simp [e1]
              omega
            · by_cases e2 : k < j
              · have h4 : way (.node a j b) k = 1 + way a k := by rw [way]; simp [e1, e2]
                have h5 : way (.node (.node l x a) j b) k = 1 + way (.node l x a) k := by rw [way]; simp [e1, e2]
                have h6 : way (.node l x a) k = 1 + way a k := by rw [way]; simp [hx, c]
                omega
              · have h4 : way (.node a j b) k = 1 + way b k := by rw [way]; simp [e1, e2]
                have h5 : way (.node (.node l x a) j b) k = 1 + way b k := by rw [way]; simp [e1, e2]
                omega
          · have := ihr k p hb.2.1 hl hp (fun h => e h.symm)
            have h1 : turned (.node l x (.node a j b)) p = .node l x (turned (.node a j b) p) := by rw [turned]; simp [hnl, rootIs, e]
            have h2 : way (.node l x (.node a j b)) k = 1 + way (.node a j b) k := by rw [way]; simp [hx, c]
            have h3 : way (.node l x (turned (.node a j b) p)) k = 1 + way (turned (.node a j b) p) k := by rw [way]; simp [hx, c]
            rw [h1, h2, h3]
            omega
theorem root_of_way {t : T} {k : Int} (h : 1 ≤ way t k) : t.root ≠ k := by
  cases t with
  | nil => simp [way] at h
  | node l x r => exact way_pos h
theorem way_of_root {t : T} {k : Int} (hk : k ∈ t.keys) (h : t.root ≠ k) : 1 ≤ way t k := by
  cases t with
  | nil => exact absurd hk not_mem_nil
  | node l x r =>
    have : x ≠ k := h
    rw [way]
    by_cases c : k < x <;> simp [this, c] <;> omega
theorem turned_root (t : T) (p : Int) (hp : p ∈ t.keys) (hb : Bst t) (hr : t.root ≠ p) : (turned t p).root = p ∨ (turned t p).root = t.root := by
  cases t with
  | nil => exact absurd hp not_mem_nil
  | node l x r =>
    unfold turned
    split
    · rename_i c
      split
      · rename_i h
        cases l with
        | nil => exact nomatch h
        | node a j b => exact .inl (by simpa [rootIs, leftUp, T.root] using h)
      · exact .inr rfl
    · split
      · rename_i h
        cases r with
        | nil => exact nomatch h
        | node a j b => exact .inl (by simpa [rootIs, rightUp, T.root] using h)
      · exact .inr rfl
/-- the first key that is turned up -/
def firstUp (t : T) (k : Int) : Int := if decide (k < par t k) == decide (par t k < gra t k) then par t k else k
theorem stepUp_eq (t : T) (k : Int) : stepUp t k = turned (turned t (firstUp t k)) k := rfl
theorem first_ok {t : T} {k : Int} (hb : Bst t) (hk : k ∈ t.keys) (h : 2 ≤ way t k) :
    firstUp t k ∈ t.keys ∧ t.root ≠ firstUp t k ∧ (turned t (firstUp t k)).root ≠ k ∧ way (turned t (firstUp t k)) k ≤ way t k := by
  unfold firstUp
  split
  · have hp := par_path hb hk (by omega)
    have h1 := path_sub t k _ hk hb hp
    have h2 := par_root hb hk h
    refine ⟨h1, fun e => h2 e.symm, ?_, way_anc t k _ hb hk hp h2⟩
    rcases turned_root t _ h1 hb (fun e => h2 e.symm) with e | e
    · rw [e]; exact par_ne t k hb hk (by omega)
    · rw [e]; exact root_of_way (by omega)
  · have hr := root_of_way (t := t) (k := k) (by omega)
    have hw := way_turned t k hb hk hr
    exact ⟨hk, hr, root_of_way (by omega), by omega⟩
theorem stepUp_way {t : T} {k : Int} (hb : Bst t) (hk : k ∈ t.keys) (h : 2 ≤ way t k) : way (stepUp t k) k + 1 ≤ way t k := by
  obtain ⟨h1, h2, h3, h4⟩ := first_ok hb hk h
  have := way_turned (turned t (firstUp t k)) k (hb.congr (turned_keys _ _)) (by rw [turned_keys]; exact hk) h3
  rw [stepUp_eq]
  omega
theorem cut31 {ws : List Int} (h : 3 ≤ ws.length) : cutD (ws.map PyData.int) (some (-3)) (some (-1)) = [.int (ws.getD (ws.length - 3) 0), .int (ws.getD (ws.length - 2) 0)] := by
  have e1 : HT.sIx ws.length 0 (some (-3)) = ws.length - 3 := by simp [HT.sIx]; omega
  have e2 : HT.sIx ws.length ws.length (some (-1)) = ws.length - 1 := by simp [HT.sIx]; omega
  unfold cutD
  rw [List.length_map, e1, e2, ← List.map_drop, ← List.map_take]
  have h1 : ws.length - 3 < ws.length := by omega
  have h2 : ws.length - 2 < ws.length := by omega
  rw [List.drop_eq_getElem_cons h1, show ws.length - 3 + 1 = ws.length - 2 by omega, List.drop_eq_getElem_cons h2, show ws.length - 1 - (ws.length - 3) = 2 by omega]
  simp only [List.take_succ_cons, List.take_zero, List.map_cons, List.map_nil, List.getD_eq_getElem?_getD, List.getElem?_eq_getElem h1, List.getElem?_eq_getElem h2, Option.getD_some]
theorem v_splay_go : ∀ (f : Nat) (t : T) (k : Int) (x3 x4 x5 : Option D) (n : Nat), t.size + 1 ≤ n → t.size ≤ 500 → Bst t → k ∈ t.keys → way t k + 1 ≤ f →
    ∃ y3 y4 y5, whileGo (fun ρ => (ev ⟨callD n, lvD n⟩ (.b2 .gt (.call .way_to (.cons (.var 0) (.cons (.var 1) .nil))) (.cst (.int 1))) ρ).bind asB)
      (fun ρ => evS ⟨callD n, lvD n⟩ (.unp true [3, 4] (.slc (.call .way_down (.cons (.var 0) (.cons (.var 1) .nil))) (.neg (.cst (.int 3))) (.neg (.cst (.int 1)))) (.set 2 (.ite (.b2 .eq (.b2 .lt (.var 1) (.var 4)) (.b2 .lt (.var 4) (.var 3))) (.var 4) (.var 1)) (.set 0 (.call .turned (.cons (.call .turned (.cons (.var 0) (.cons (.var 2) .nil))) (.cons (.var 1) .nil))) .nil))) ρ) f [some (enc t), some (.int k), x3, x4, x5]
      = some (.nx [some (enc (splayN (f - 1) t k)), some (.int k), y3, y4, y5]) := by
  intro f
  induction f with
  | zero => intro t k _ _ _ n _ _ _ _ h; omega
  | succ f ih =>
    intro t k x3 x4 x5 n hn hz hb hk hf
    have hw := v_way_to t k n hn
    by_cases h2 : 2 ≤ way t k
    · obtain ⟨h1, h3, h4, h5⟩ := first_ok hb hk h2
      have e1 := v_turned t (firstUp t k) n hn hb h1 h3
      have e2 := v_turned (turned t (firstUp t k)) k n (by rw [size_congr (turned_keys _ _)]; exact hn) (hb.congr (turned_keys _ _)) (by rw [turned_keys]; exact hk) h4
      have hd := v_way_down t k n hn hz hb hk
      have pl := path_len t k hb hk
      have hc := cut31 (ws := path t k) (by omega)
      have sk := stepUp_keys t k
      obtain ⟨y3, y4, y5, h⟩ := ih (stepUp t k) k (some (.int (firstUp t k))) (some (.int (gra t k))) (some (.int (par t k))) n (by rw [size_congr sk]; exact hn) (by rw [size_congr sk]; exact hz) (hb.congr sk) (by rw [sk]; exact hk) (by have := stepUp_way hb hk h2; omega)
      refine ⟨y3, y4, y5, ?_⟩
      have h6 : splayN f t k = splayN (f - 1) (stepUp t k) k := by
        cases f with
        | zero => omega
        | succ f =>
          rw [splayN, if_pos (by omega)]
          rfl
      have h7 : (1 : Int) < way t k := by omega
      have hf1 : (if (k < par t k ↔ par t k < gra t k) then some (PyData.int (par t k)) else some (PyData.int k)) = some (PyData.int (firstUp t k)) := by
        unfold firstUp
        simp only [beq_iff_eq, decide_eq_decide]
        split <;> rfl
      rw [whileGo, show f + 1 - 1 = f from rfl, h6]
      rw [← stepUp_eq] at e2
      change cutD _ _ _ = [.int (gra t k), .int (par t k)] at hc
      simp [hw, hd, hc, h7, hf1, e1, e2]
      simpa using h
    · have h7 : ¬ (1 : Int) < way t k := by omega
      refine ⟨x3, x4, x5, ?_⟩
      have h6 : splayN f t k = t := by
        cases f with
        | zero => rfl
        | succ f => rw [splayN, if_neg (by omega)]
      rw [whileGo, show f + 1 - 1 = f from rfl, h6]
      simp [hw, h7]
theorem v_splayed {t : T} {k : Int} {n : Nat} (hn : t.size + 3 ≤ n) (hz : t.size ≤ 60) (hb : Bst t) (hk : k ∈ t.keys) : callD n .splayed [enc t, .int k] = some (enc (splayed t k)) := by
  obtain ⟨m, rfl, hm⟩ := up (c := t.size + 2) hn
  obtain ⟨y3, y4, y5, h⟩ := v_splay_go 64 t k none none none m (by omega) (by omega) hb hk (by have := way_le t k; omega)
  have sk := splayN_keys 63 t k
  have h2 := v_once_up (t := splayN 63 t k) (k := k) (n := m) (by rw [size_congr sk]; exact hm) (hb.congr sk) (by rw [sk]; exact hk)
  refine k_splayed ?_
  rw [c_splayed, s_whl, h]
  simp [h2, splayed]
theorem keys_of_sides {t : T} (h : t.isNil = false) : t = .node t.left t.root t.right := by
  cases t with
  | nil => exact nomatch h
  | node _ _ _ => rfl
theorem v_without_splayed {t : T} {k : Int} {n : Nat} (hn : t.size + 4 ≤ n) (hz : t.size ≤ 60) (hb : Bst t) (hk : k ∈ t.keys) : callD n .without_splayed [enc t, .int k] = some (enc (withoutSplayed t k)) := by
  obtain ⟨m, rfl, hm⟩ := up (c := t.size + 3) hn
  have h1 := v_splayed (n := m) hm hz hb hk
  have sk := splayed_keys t k
  have nn : (splayed t k).isNil = false := not_nil_of (k := k) (by rw [sk]; exact hk)
  have eN := keys_of_sides nn
  have sz : (splayed t k).size = t.size := size_congr sk
  have sb : Bst (splayed t k) := hb.congr sk
  refine k_without_splayed ?_
  rw [withoutSplayed]
  rw [eN] at h1 sz sb
  generalize (splayed t k).left = l at *
  generalize (splayed t k).right = r at *
  generalize (splayed t k).root = x at *
  rw [enc_node] at h1
  simp only [T.size] at sz
  cases hl : l.isNil with
  | true => simp [c_without_splayed, h1, hl]
  | false =>
    have g1 := v_greatest l m (by omega) hl
    have g2 := v_splayed (t := l) (k := greatest l) (n := m) (by omega) (by omega) sb.1 (greatest_mem hl)
    have lk := splayed_keys l (greatest l)
    have ln : (splayed l (greatest l)).isNil = false := not_nil_of (k := greatest l) (by rw [lk]; exact greatest_mem hl)
    have eL := keys_of_sides ln
    generalize splayed l (greatest l) = u at *
    cases u with
    | nil => exact nomatch ln
    | node a j b =>
      rw [enc_node] at g2
      simp [c_without_splayed, h1, hl, g1, g2, hang]
end TT
set_option Elab.async false
set_option linter.all false
set_option maxRecDepth 100000
set_option maxHeartbeats 4000000
/-! Heights, weights, sizes: what the program's defs give. -/
namespace TT
open PySem L2
def wd (h : Bool) : Str := if h then "heights" else "weights"
@[simp] theorem wd_eq (h : Bool) : (wd h == Str.ofString "heights") = h := by cases h <;> decide +kernel
@[simp] theorem wd_eq' (h : Bool) : (wd h = Str.ofString "heights") = (h = true) := by cases h <;> (apply propext; decide +kernel)
theorem v_weight_of (t : T) {n : Nat} (hn : t.size + 2 ≤ n) : callD n .weight_of [enc t] = some (.int (t.size + 1)) := by
  obtain ⟨m, rfl, hm⟩ := up (c := t.size + 1) hn
  refine k_weight_of ?_
  simp [c_weight_of, v_size_of t m hm]
theorem v_is_greater (h : Bool) (a b : T) {n : Nat} (hn : a.size + b.size + 3 ≤ n) : callD n .is_greater [.str (wd h), enc a, enc b] = some (.bool (greaterB h a b)) := by
  obtain ⟨m, rfl, hm⟩ := up (c := a.size + b.size + 2) hn
  refine k_is_greater ?_
  cases h with
  | true =>
    simp [c_is_greater, v_height_of a m (by omega), v_height_of b m (by omega), greaterB]
    omega
  | false =>
    simp [c_is_greater, v_weight_of a (n := m) (by omega), v_weight_of b (n := m) (by omega), greaterB]
    omega
theorem v_is_inner (h : Bool) (a b : T) {n : Nat} (hn : a.size + b.size + 3 ≤ n) : callD n .is_inner [.str (wd h), enc a, enc b] = some (.bool (innerB h a b)) := by
  obtain ⟨m, rfl, hm⟩ := up (c := a.size + b.size + 2) hn
  refine k_is_inner ?_
  cases h with
  | true =>
    simp [c_is_inner, v_height_of a m (by omega), v_height_of b m (by omega), innerB]
  | false =>
    simp [c_is_inner, v_weight_of a (n := m) (by omega), v_weight_of b (n := m) (by omega), innerB]
    omega
theorem greater_nn {h : Bool} {a b : T} (g : greaterB h a b = true) : ∃ l k r, a = .node l k r := by
  cases a with
  | nil => cases h <;> simp [greaterB, T.ht, T.size] at g
  | node l k r => exact ⟨l, k, r, rfl⟩
theorem inner_nn {h : Bool} {a b : T} (g : innerB h a b = true) : ∃ l k r, a = .node l k r := by
  cases a with
  | nil => cases h <;> simp [innerB, T.ht, T.size] at g <;> omega
  | node l k r => exact ⟨l, k, r, rfl⟩
theorem v_set_right (h : Bool) (l : T) (k : Int) (r : T) {n : Nat} (hn : l.size + r.size + 4 ≤ n) : callD n .set_right [.str (wd h), .tuple [enc l, .int k, enc r]] = some (enc (setRight h (.node l k r))) := by
  obtain ⟨m, rfl, hm⟩ := up (c := l.size + r.size + 3) hn
  have g1 := v_is_greater h l r (n := m) (by omega)
  have g2 := v_is_greater h r l (n := m) (by omega)
  refine k_set_right ?_
  rw [setRight]
  cases e1 : greaterB h l r with
  | true =>
    obtain ⟨a, j, b, rfl⟩ := greater_nn e1
    simp only [T.size] at hm
    have g3 := v_is_inner h b a (n := m) (by omega)
    rw [e1] at g1
    rw [enc_node] at g1
    cases e2 : innerB h b a with
    | true =>
      obtain ⟨c, i, d, rfl⟩ := inner_nn e2
      rw [e2, enc_node] at g3
      rw [enc_node] at g1
      simp [c_set_right, g1, g3, e2, T.left, T.right, rightUp, leftUp, v_right_up (n := m) (by omega)]
      have := v_left_up (a := .node a j c) (b := d) (r := r) (j := i) (k := k) (n := m) (by omega)
      rw [enc_node] at this
      simp [this]
    | false =>
      rw [e2] at g3
      simp [c_set_right, g1, g3, e2, T.left, T.right, leftUp, v_left_up (n := m) (by omega)]
  | false =>
    rw [e1] at g1
    cases e3 : greaterB h r l with
    | true =>
      obtain ⟨a, j, b, rfl⟩ := greater_nn e3
      simp only [T.size] at hm
      have g3 := v_is_inner h a b (n := m) (by omega)
      rw [e3] at g2
      rw [enc_node] at g1 g2
      cases e2 : innerB h a b with
      | true =>
        obtain ⟨c, i, d, rfl⟩ := inner_nn e2
        rw [e2, enc_node] at g3
        rw [enc_node] at g1 g2
        simp [c_set_right, g1, g2, g3, e2, T.left, T.right, rightUp, leftUp, v_left_up (n := m) (by omega)]
        have := v_right_up (a := c) (b := .node d j b) (l := l) (j := i) (k := k) (n := m) (by omega)
        rw [enc_node] at this
        simp [this]
      | false =>
        rw [e2] at g3
        simp [c_set_right, g1, g2, g3, e2, T.left, T.right, rightUp, v_right_up (n := m) (by omega)]
    | false =>
      rw [e3] at g2
      simp [c_set_right, g1, g2]
theorem putRight_size (h : Bool) (t : T) (k : Int) : (putRight h t k).size = t.size + 1 := by
  rw [size_congr (putRight_keys h t k), withLeaf_size]
theorem takeRight_size (h : Bool) (t : T) (k : Int) : (takeRight h t k).size ≤ t.size := by
  rw [size_congr (takeRight_keys h t k)]
  exact without_size t k
theorem v_put_right (h : Bool) : ∀ (t : T) (k : Int) (n : Nat), t.size + 6 ≤ n → callD n .put_right [.str (wd h), enc t, .int k] = some (enc (putRight h t k)) := by
  intro t
  induction t with
  | nil =>
    intro k n hn
    obtain ⟨m, rfl, hm⟩ := up (c := 5) hn
    refine k_put_right ?_
    simp [c_put_right, putRight]
  | node l x r ihl ihr =>
    intro k n hn
    simp only [T.size] at hn
    obtain ⟨m, rfl, hm⟩ := up (c := l.size + r.size + 6) (n := n) (by clear ihl ihr; omega)
    refine k_put_right ?_
    by_cases c : k < x
    · have := putRight_size h l k
      simp [c_put_right, putRight, c, ihl k m (by omega), v_set_right h (putRight h l k) x r (n := m) (by omega)]
    · have := putRight_size h r k
      simp [c_put_right, putRight, c, ihr k m (by omega), v_set_right h l x (putRight h r k) (n := m) (by omega)]
theorem v_take_right (h : Bool) : ∀ (t : T) (k : Int) (n : Nat), t.size + 5 ≤ n → Bst t → k ∈ t.keys → callD n .take_right [.str (wd h), enc t, .int k] = some (enc (takeRight h t k)) := by
  intro t
  induction t with
  | nil => intro k n _ _ hk; exact absurd hk not_mem_nil
  | node l x r ihl ihr =>
    intro k n hn hb hk
    simp only [T.size] at hn
    obtain ⟨m, rfl, hm⟩ := up (c := l.size + r.size + 5) (n := n) (by clear ihl ihr; omega)
    refine k_take_right ?_
    by_cases c : k < x
    · have := takeRight_size h l k
      simp [c_take_right, takeRight, c, ihl k m (by omega) hb.1 (in_left hb hk c), v_set_right h (takeRight h l k) x r (n := m) (by omega)]
    · by_cases c2 : x < k
      · have := takeRight_size h r k
        simp [c_take_right, takeRight, c, c2, ihr k m (by omega) hb.2.1 (in_right hb hk c2), v_set_right h l x (takeRight h r k) (n := m) (by omega)]
      · cases hl : l.isNil with
        | true => cases hr : r.isNil <;> simp [c_take_right, takeRight, c, c2, hl, hr]
        | false =>
          cases hr : r.isNil with
          | true => simp [c_take_right, takeRight, c, c2, hl, hr]
          | false =>
            have := takeRight_size h r (least r)
            simp [c_take_right, takeRight, c, c2, hl, hr, v_least r m (by omega) hr, ihr (least r) m (by omega) hb.2.1 (least_mem hr), v_set_right h l (least r) (takeRight h r (least r)) (n := m) (by omega)]
theorem v_is_even (l : T) (k : Int) (r : T) {n : Nat} (hn : l.size + r.size + 3 ≤ n) : callD n .is_even [.tuple [enc l, .int k, enc r]] = some (.bool (evenB (.node l k r))) := by
  obtain ⟨m, rfl, hm⟩ := up (c := l.size + r.size + 2) hn
  have g := v_size_of (.node l k r) m (by simp only [T.size]; omega)
  rw [enc_node] at g
  refine k_is_even ?_
  have ev : evenB (.node l k r) = decide (3 * max l.size r.size ≤ 2 * (l.size + 1 + r.size)) := rfl
  have ez : (T.node l k r).size = l.size + 1 + r.size := rfl
  rw [ev]
  rw [ez] at g
  simp [c_is_even, v_size_of l m (by omega), v_size_of r m (by omega), g]
  by_cases h : l.size < r.size
  · rw [if_pos h, Nat.max_eq_right (Nat.le_of_lt h)]; omega
  · rw [if_neg h, Nat.max_eq_left (Nat.le_of_not_lt h)]; omega
theorem cut_to (ks : List Int) (j : Nat) (h : j ≤ ks.length) : cutD (ks.map PyData.int) none (some (j : Int)) = (ks.take j).map PyData.int := by
  unfold cutD
  rw [List.length_map, HT.sIx_nat, HT.sIx_none, Nat.min_eq_left h, List.drop_zero, Nat.sub_zero, List.map_take]
theorem cut_from (ks : List Int) (j : Nat) (h : j ≤ ks.length) : cutD (ks.map PyData.int) (some (j : Int)) none = (ks.drop j).map PyData.int := by
  unfold cutD
  rw [List.length_map, HT.sIx_nat, HT.sIx_none, Nat.min_eq_left h, List.map_drop, List.take_of_length_le (by rw [List.length_drop, List.length_map]; exact Nat.le_refl _)]
theorem at_ints (ks : List Int) (j : Nat) (h : j < ks.length) : atI (ks.map PyData.int) (j : Int) = some (.int (ks.getD j 0)) := by
  refine at_nat _ j _ ?_
  rw [List.getElem?_map, List.getElem?_eq_getElem h, List.getD_eq_getElem?_getD, List.getElem?_eq_getElem h]
  rfl
@[simp] theorem o_eqLi {ks : List Int} : op2 .eq (.list (ks.map PyData.int)) (.list []) = some (.bool ks.isEmpty) := by
  cases ks <;> simp
theorem half (n : Nat) : ((n : Int) / 2) = ((n / 2 : Nat) : Int) := by omega
theorem v_built : ∀ (f : Nat) (ks : List Int) (n : Nat), ks.length ≤ f → f + 1 ≤ n → callD n .built [.list (ks.map PyData.int)] = some (enc (builtN f ks)) := by
  intro f
  induction f with
  | zero =>
    intro ks n hf hn
    have e : ks = [] := List.eq_nil_of_length_eq_zero (by omega)
    subst e
    obtain ⟨m, rfl, hm⟩ := up (c := 0) hn
    refine k_built ?_
    simp [c_built, builtN]
  | succ f ih =>
    intro ks n hf hn
    obtain ⟨m, rfl, hm⟩ := up (c := f + 1) hn
    refine k_built ?_
    cases he : ks.isEmpty with
    | true =>
      rw [List.isEmpty_iff] at he
      subst he
      simp [c_built, builtN]
    | false =>
      have hl : 0 < ks.length := by
        cases ks with
        | nil => exact nomatch he
        | cons _ _ => exact Nat.succ_pos _
      have h1 := cut_to ks (ks.length / 2) (by omega)
      have h2 := cut_from ks (ks.length / 2 + 1) (by omega)
      have h3 := at_ints ks (ks.length / 2) (by omega)
      have h4 := ih (ks.take (ks.length / 2)) m (by rw [List.length_take]; omega) hm
      have h5 := ih (ks.drop (ks.length / 2 + 1)) m (by rw [List.length_drop]; omega) hm
      rw [Int.natCast_add] at h2
      simp only [← half] at h1 h2 h3
      simp only [Int.natCast_one] at h2
      rw [List.map_take] at h4 h1
      rw [List.map_drop] at h5 h2
      simp [c_built, he, h1, h2, h3, h4, h5, builtN]
theorem builtN_keys : ∀ (f : Nat) (ks : List Int), ks.length ≤ f → (builtN f ks).keys = ks := by
  intro f
  induction f with
  | zero =>
    intro ks h
    have e : ks = [] := List.eq_nil_of_length_eq_zero (by omega)
    subst e
    rfl
  | succ f ih =>
    intro ks h
    unfold builtN
    split
    · rename_i he
      rw [List.isEmpty_iff] at he
      subst he
      rfl
    · rename_i he
      have hl : 0 < ks.length := by
        cases ks with
        | nil => exact absurd rfl he
        | cons _ _ => exact Nat.succ_pos _
      have hh : ks.length / 2 < ks.length := by omega
      rw [T.keys, ih _ (by rw [List.length_take]; omega), ih _ (by rw [List.length_drop]; omega), List.getD_eq_getElem?_getD, List.getElem?_eq_getElem hh, Option.getD_some, List.append_assoc, List.singleton_append, ← List.drop_eq_getElem_cons hh, List.take_append_drop]
theorem rebuilt_keys : ∀ t : T, (rebuilt t).keys = t.keys
  | .nil => rfl
  | .node l k r => by
    unfold rebuilt
    split
    · exact builtN_keys _ _ (Nat.le_refl _)
    · exact keys_node (rebuilt_keys l) (rebuilt_keys r)
theorem v_rebuilt : ∀ (t : T) (n : Nat), t.size + 4 ≤ n → t.size ≤ 500 → callD n .rebuilt [enc t] = some (enc (rebuilt t)) := by
  intro t
  induction t with
  | nil =>
    intro n hn _
    obtain ⟨m, rfl, hm⟩ := up (c := 3) hn
    refine k_rebuilt ?_
    simp [c_rebuilt, rebuilt]
  | node l k r ihl ihr =>
    intro n hn hz
    simp only [T.size] at hn hz
    obtain ⟨m, rfl, hm⟩ := up (c := l.size + r.size + 4) (n := n) (by clear ihl ihr; omega)
    have g := v_is_even l k r (n := m) (by omega)
    refine k_rebuilt ?_
    cases e : evenB (.node l k r) with
    | true =>
      rw [e] at g
      simp [c_rebuilt, rebuilt, g, e, ihl m (by omega) (by omega), ihr m (by omega) (by omega)]
    | false =>
      rw [e] at g
      have g2 := v_keys_of (.node l k r) m (by simp only [T.size]; omega) (by simp only [T.size]; omega)
      rw [enc_node] at g2
      have g3 := v_built (T.node l k r).keys.length (T.node l k r).keys m (Nat.le_refl _) (by rw [keys_len]; simp only [T.size]; omega)
      rw [rebuilt, e]
      generalize (T.node l k r).keys = ks at *
      simp [c_rebuilt, g, g2, g3]
theorem v_put_rebuilt (t : T) (k : Int) {n : Nat} (hn : t.size + 6 ≤ n) (hz : t.size ≤ 400) : callD n .put_rebuilt [enc t, .int k] = some (enc (rebuilt (withLeaf t k))) := by
  obtain ⟨m, rfl, hm⟩ := up (c := t.size + 5) hn
  have := withLeaf_size t k
  refine k_put_rebuilt ?_
  simp [c_put_rebuilt, v_with_leaf t k m (by omega), v_rebuilt (withLeaf t k) m (by omega) (by omega)]
theorem v_take_rebuilt (t : T) (k : Int) {n : Nat} (hn : t.size + 6 ≤ n) (hz : t.size ≤ 400) (hb : Bst t) (hk : k ∈ t.keys) : callD n .take_rebuilt [enc t, .int k] = some (enc (rebuilt (without t k))) := by
  obtain ⟨m, rfl, hm⟩ := up (c := t.size + 5) hn
  have := without_size t k
  refine k_take_rebuilt ?_
  simp [c_take_rebuilt, v_without t k m (by omega) hb hk, v_rebuilt (without t k) m (by omega) (by omega)]
end TT
set_option Elab.async false
set_option linter.all false
set_option maxRecDepth 100000
set_option maxHeartbeats 4000000
/-! Levels: what the program's defs give. -/
namespace TT
open PySem L2
theorem v_rank_of (t : RT) {n : Nat} (hn : 1 ≤ n) : callD n .rank_of [encR t] = some (.int t.rk) := by
  obtain ⟨m, rfl, hm⟩ := up (c := 0) hn
  refine k_rank_of ?_
  cases t <;> simp [c_rank_of, RT.rk]
theorem ranked_size : ∀ t : T, (ranked t).size = t.size
  | .nil => rfl
  | .node l k r => by simp only [ranked, RT.size, T.size, ranked_size l, ranked_size r]
theorem bare_size : ∀ t : RT, (bare t).size = t.size
  | .nil => rfl
  | .node l k r y => by simp only [bare, RT.size, T.size, bare_size l, bare_size r]
theorem bare_ranked : ∀ t : T, bare (ranked t) = t
  | .nil => rfl
  | .node l k r => by simp only [ranked, bare, bare_ranked l, bare_ranked r]
theorem v_ranked : ∀ (t : T) (n : Nat), t.size + 2 ≤ n → callD n .ranked [enc t] = some (encR (ranked t)) := by
  intro t
  induction t with
  | nil =>
    intro n hn
    obtain ⟨m, rfl, hm⟩ := up (c := 1) hn
    refine k_ranked ?_
    simp [c_ranked, ranked]
  | node l k r ihl ihr =>
    intro n hn
    simp only [T.size] at hn
    obtain ⟨m, rfl, hm⟩ := up (c := l.size + r.size + 2) (n := n) (by clear ihl ihr; omega)
    refine k_ranked ?_
    simp [c_ranked, ranked, ihl m (by omega), ihr m (by omega), v_rank_of (ranked l) (n := m) (by omega)]
theorem v_bare : ∀ (t : RT) (n : Nat), t.size + 1 ≤ n → callD n .bare [encR t] = some (enc (bare t)) := by
  intro t
  induction t with
  | nil =>
    intro n hn
    obtain ⟨m, rfl, hm⟩ := up (c := 0) hn
    refine k_bare ?_
    simp [c_bare, bare]
  | node l k r y ihl ihr =>
    intro n hn
    simp only [RT.size] at hn
    obtain ⟨m, rfl, hm⟩ := up (c := l.size + r.size + 1) (n := n) (by clear ihl ihr; omega)
    refine k_bare ?_
    simp [c_bare, bare, ihl m (by omega), ihr m (by omega)]
theorem v_skew (t : RT) {n : Nat} (hn : 2 ≤ n) : callD n .skew [encR t] = some (encR (skew t)) := by
  obtain ⟨m, rfl, hm⟩ := up (c := 1) hn
  refine k_skew ?_
  cases t with
  | nil => simp [c_skew, skew]
  | node l k r y =>
    have g2 := v_rank_of (.node l k r y) (n := m) hm
    cases l with
    | nil => simp [c_skew, skew]
    | node a j b x =>
      have g1 := v_rank_of (.node a j b x) (n := m) hm
      rw [encR_node] at g1 g2
      rw [encR_node] at g2
      by_cases e : x = y
      · subst e
        simp [c_skew, skew, g1, g2, RT.rk]
      · simp [c_skew, skew, g1, g2, RT.rk, e]
theorem v_split (t : RT) {n : Nat} (hn : 2 ≤ n) : callD n .split [encR t] = some (encR (split t)) := by
  obtain ⟨m, rfl, hm⟩ := up (c := 1) hn
  refine k_split ?_
  cases t with
  | nil => simp [c_split, split]
  | node l k r y =>
    cases r with
    | nil => simp [c_split, split]
    | node a j b x =>
      cases b with
      | nil => simp [c_split, split]
      | node b i c z =>
        have g1 := v_rank_of (.node b i c z) (n := m) hm
        have g2 := v_rank_of (.node l k (.node a j (.node b i c z) x) y) (n := m) hm
        simp only [encR_node] at g1 g2
        by_cases e : z = y
        · subst e
          simp [c_split, split, g1, g2, RT.rk]
        · simp [c_split, split, g1, g2, RT.rk, e]
theorem v_put_in : ∀ (t : RT) (k : Int) (n : Nat), t.size + 3 ≤ n → callD n .put_in [encR t, .int k] = some (encR (putIn t k)) := by
  intro t
  induction t with
  | nil =>
    intro k n hn
    obtain ⟨m, rfl, hm⟩ := up (c := 2) hn
    refine k_put_in ?_
    simp [c_put_in, putIn]
  | node l x r y ihl ihr =>
    intro k n hn
    simp only [RT.size] at hn
    obtain ⟨m, rfl, hm⟩ := up (c := l.size + r.size + 3) (n := n) (by clear ihl ihr; omega)
    refine k_put_in ?_
    by_cases c : k < x
    · have g := v_skew (.node (putIn l k) x r y) (n := m) (by omega)
      rw [encR_node] at g
      simp [c_put_in, putIn, c, ihl k m (by omega), g, v_split _ (n := m) (show 2 ≤ m by omega)]
    · have g := v_skew (.node l x (putIn r k) y) (n := m) (by omega)
      rw [encR_node] at g
      simp [c_put_in, putIn, c, ihr k m (by omega), g, v_split _ (n := m) (show 2 ≤ m by omega)]
theorem v_with_right (l r r2 : RT) (k y : Int) {n : Nat} (hn : 1 ≤ n) : callD n .with_right [.tuple [encR l, .int k, encR r, .int y], encR r2] = some (.tuple [encR l, .int k, encR r2, .int y]) := by
  obtain ⟨m, rfl, hm⟩ := up (c := 0) hn
  refine k_with_right ?_
  simp [c_with_right]
/-! ranks are positive -/
def RT.pos : RT → Prop
  | .nil => True
  | .node l _ r y => l.pos ∧ r.pos ∧ 1 ≤ y
theorem pos_rk : ∀ {t : RT}, t.pos → 0 ≤ t.rk
  | .nil, _ => Int.le_refl _
  | .node _ _ _ y, ⟨_, _, h⟩ => by show 0 ≤ y; omega
theorem pos_ranked : ∀ t : T, (ranked t).pos
  | .nil => trivial
  | .node l k r => ⟨pos_ranked l, pos_ranked r, by have := pos_rk (pos_ranked l); omega⟩
theorem pos_skew : ∀ {t : RT}, t.pos → (skew t).pos
  | .nil, h => h
  | .node .nil _ _ _, h => h
  | .node (.node a j b x) k r y, ⟨⟨h1, h2, h3⟩, h4, h5⟩ => by
    rw [skew]
    split
    · exact ⟨h1, ⟨h2, h4, h5⟩, h3⟩
    · exact ⟨⟨h1, h2, h3⟩, h4, h5⟩
theorem pos_split : ∀ {t : RT}, t.pos → (split t).pos
  | .nil, h => h
  | .node _ _ .nil _, h => h
  | .node _ _ (.node _ _ .nil _) _, h => h
  | .node l k (.node a j (.node b i c z) x) y, ⟨h1, ⟨h2, h3, h4⟩, h5⟩ => by
    rw [split]
    split
    · exact ⟨⟨h1, h2, h5⟩, h3, by omega⟩
    · exact ⟨h1, ⟨h2, h3, h4⟩, h5⟩
theorem pos_onR {f : RT → RT} (hf : ∀ {t : RT}, t.pos → (f t).pos) : ∀ {t : RT}, t.pos → (onR f t).pos
  | .nil, h => h
  | .node _ _ _ _, ⟨h1, h2, h3⟩ => ⟨h1, hf h2, h3⟩
theorem pos_setRk {y : Int} (hy : 1 ≤ y) : ∀ {t : RT}, t.pos → (setRk y t).pos
  | .nil, h => h
  | .node _ _ _ _, ⟨h1, h2, _⟩ => ⟨h1, h2, hy⟩
theorem lower_eq (l : RT) (k : Int) (r : RT) (y : Int) : lower (.node l k r y) = if min l.rk r.rk + 1 < y then setRk (min l.rk r.rk + 1) (if min l.rk r.rk + 1 < r.rk then onR (setRk (min l.rk r.rk + 1)) (.node l k r y) else .node l k r y) else .node l k r y := rfl
theorem pos_lower {t : RT} (h : t.pos) : (lower t).pos := by
  cases t with
  | nil => simp only [lower]; split <;> (try split) <;> trivial
  | node l k r y =>
    have h1 := pos_rk h.1
    have h2 := pos_rk h.2.1
    have hd : 1 ≤ min l.rk r.rk + 1 := by omega
    rw [lower_eq]
    by_cases c1 : min l.rk r.rk + 1 < y
    · rw [if_pos c1]
      refine pos_setRk hd ?_
      by_cases c2 : min l.rk r.rk + 1 < r.rk
      · rw [if_pos c2]
        exact pos_onR (pos_setRk hd) h
      · rw [if_neg c2]
        exact h
    · rw [if_neg c1]
      exact h
theorem pos_setBack {t : RT} (h : t.pos) : (setBack t).pos := by
  unfold setBack
  exact pos_onR pos_split (pos_split (pos_onR (pos_onR pos_skew) (pos_onR pos_skew (pos_skew (pos_lower h)))))
theorem pos_takeOut : ∀ {t : RT} {k : Int}, t.pos → (takeOut t k).pos
  | .nil, _, h => h
  | .node l x r y, k, ⟨h1, h2, h3⟩ => by
    unfold takeOut
    split
    · exact pos_setBack ⟨pos_takeOut h1, h2, h3⟩
    · split
      · exact pos_setBack ⟨h1, pos_takeOut h2, h3⟩
      · split
        · trivial
        · split
          · exact pos_setBack ⟨h1, pos_takeOut h2, h3⟩
          · exact pos_setBack ⟨pos_takeOut h1, h2, h3⟩
theorem pos_putIn : ∀ {t : RT} {k : Int}, t.pos → (putIn t k).pos
  | .nil, _, _ => ⟨trivial, trivial, Int.le_refl _⟩
  | .node l x r y, k, ⟨h1, h2, h3⟩ => by
    unfold putIn
    split
    · exact pos_split (pos_skew ⟨pos_putIn h1, h2, h3⟩)
    · exact pos_split (pos_skew ⟨h1, pos_putIn h2, h3⟩)
/-! set back -/
def tlS : S → S
  | .unp _ _ _ (.set _ _ (.ifs _ _ _ k)) => k
  | s => s
def c_tail : S := tlS c_set_back
theorem c_set_back_eq : c_set_back = .unp false [2, 3, 4, 5] (.var 0) (.set 1 (.b2 .add (.b2 .min (.call .rank_of (.cons (.var 2) .nil)) (.call .rank_of (.cons (.var 4) .nil))) (.cst (.int 1)))
    (.ifs (.b2 .lt (.var 1) (.var 5)) (.set 5 (.var 1) (.ifs (.b2 .lt (.var 1) (.call .rank_of (.cons (.var 4) .nil))) (.set 4 (.tup (.cons (.b2 .ix (.var 4) (.cst (.int 0))) (.cons (.b2 .ix (.var 4) (.cst (.int 1))) (.cons (.b2 .ix (.var 4) (.cst (.int 2))) (.cons (.var 1) .nil))))) .nil) .nil .nil)) .nil c_tail)) := rfl
theorem skew_node (l : RT) (k : Int) (r : RT) (y : Int) : ∃ a j b x, skew (.node l k r y) = .node a j b x := by
  cases l with
  | nil => exact ⟨_, _, _, _, rfl⟩
  | node a j b x =>
    rw [skew]
    split <;> exact ⟨_, _, _, _, rfl⟩
theorem split_node (l : RT) (k : Int) (r : RT) (y : Int) : ∃ a j b x, split (.node l k r y) = .node a j b x := by
  cases r with
  | nil => exact ⟨_, _, _, _, rfl⟩
  | node a j b x =>
    cases b with
    | nil => exact ⟨_, _, _, _, rfl⟩
    | node b i c z =>
      rw [split]
      split <;> exact ⟨_, _, _, _, rfl⟩
theorem v_tail (l : RT) (k : Int) (r : RT) (y : Int) (a0 a1 : Option D) {n : Nat} (hn : 2 ≤ n) :
    evS ⟨callD n, lvD n⟩ c_tail [a0, a1, some (encR l), some (.int k), some (encR r), some (.int y)] = some (.rt (encR (onR split (split (onR (onR skew) (onR skew (skew (.node l k r y)))))))) := by
  have g0 := v_skew (.node l k r y) hn
  obtain ⟨a, j, b, x, e⟩ := skew_node l k r y
  rw [e] at g0 ⊢
  simp only [encR_node] at g0
  cases b with
  | nil =>
    have g1 := v_split (.node a j .nil x) hn
    obtain ⟨a2, j2, b2, x2, e2⟩ := split_node a j .nil x
    have eo : onR (onR skew) (onR skew (.node a j .nil x)) = .node a j .nil x := rfl
    rw [eo, e2]
    rw [e2] at g1
    simp only [encR_node, encR_nil] at g0 g1
    have g3 := v_split b2 hn
    cases b2 with
    | nil => simp [c_tail, tlS, c_set_back, g0, g1, onR, split]
    | node b3 j3 b4 x3 =>
      simp only [encR_node, encR_nil] at g1 g3
      have g2 := v_with_right a2 (.node b3 j3 b4 x3) (split (.node b3 j3 b4 x3)) j2 x2 (n := n) (by omega)
      simp only [encR_node, encR_nil] at g2
      simp [c_tail, tlS, c_set_back, g0, g1, g2, g3, onR]
  | node b c d z =>
    have g1 := v_skew (.node b c d z) hn
    obtain ⟨b', c', d', z', e1⟩ := skew_node b c d z
    rw [e1] at g1
    have w1 := v_with_right a (.node b c d z) (.node b' c' d' z') j x (n := n) (by omega)
    have eo : onR (onR skew) (onR skew (.node a j (.node b c d z) x)) = .node a j (.node b' c' (skew d') z') x := by simp only [onR, e1]
    rw [eo]
    simp only [encR_node, encR_nil] at g0 g1 w1
    have g2 := v_split (.node a j (.node b' c' (skew d') z') x) hn
    obtain ⟨a2, j2, b2, x2, e2⟩ := split_node a j (.node b' c' (skew d') z') x
    rw [e2] at g2 ⊢
    have g3 := v_split b2 hn
    cases d' with
    | nil =>
      rw [show skew RT.nil = .nil from rfl] at g2
      simp only [encR_node, encR_nil] at g0 g1 w1 g2
      cases b2 with
      | nil =>
        simp only [encR_nil] at g2
        simp [c_tail, tlS, c_set_back, g0, g1, g2, w1, onR, split]
      | node b3 j3 b4 x3 =>
        simp only [encR_node, encR_nil] at g2 g3
        have w3 := v_with_right a2 (.node b3 j3 b4 x3) (split (.node b3 j3 b4 x3)) j2 x2 (n := n) (by omega)
        simp only [encR_node, encR_nil] at w3
        simp [c_tail, tlS, c_set_back, g0, g1, g2, g3, w1, w3, onR]
    | node d1 c1 d2 z1 =>
      have g4 := v_skew (.node d1 c1 d2 z1) hn
      have w2 := v_with_right b' (.node d1 c1 d2 z1) (skew (.node d1 c1 d2 z1)) c' z' (n := n) (by omega)
      have w4 := v_with_right a (.node b' c' (.node d1 c1 d2 z1) z') (.node b' c' (skew (.node d1 c1 d2 z1)) z') j x (n := n) (by omega)
      simp only [encR_node, encR_nil] at g0 g1 w1 g2 g4 w2 w4
      cases b2 with
      | nil =>
        simp only [encR_nil] at g2
        simp [c_tail, tlS, c_set_back, g0, g1, g2, g4, w1, w2, w4, onR, split]
      | node b3 j3 b4 x3 =>
        simp only [encR_node, encR_nil] at g2 g3
        have w3 := v_with_right a2 (.node b3 j3 b4 x3) (split (.node b3 j3 b4 x3)) j2 x2 (n := n) (by omega)
        simp only [encR_node, encR_nil] at w3
        simp [c_tail, tlS, c_set_back, g0, g1, g2, g3, g4, w1, w2, w3, w4, onR]
theorem v_set_back (l : RT) (k : Int) (r : RT) (y : Int) (hp : (RT.node l k r y).pos) {n : Nat} (hn : 3 ≤ n) : callD n .set_back [.tuple [encR l, .int k, encR r, .int y]] = some (encR (setBack (.node l k r y))) := by
  obtain ⟨m, rfl, hm⟩ := up (c := 2) hn
  have hl := v_rank_of l (n := m) (by omega)
  have hr := v_rank_of r (n := m) (by omega)
  have p1 := pos_rk hp.1
  have p2 := pos_rk hp.2.1
  have ed : (if r.rk < l.rk then r.rk else l.rk) = min l.rk r.rk := by
    by_cases c : r.rk < l.rk
    · rw [if_pos c]; omega
    · rw [if_neg c]; omega
  refine k_set_back ?_
  rw [c_set_back_eq]
  unfold setBack
  by_cases c1 : min l.rk r.rk + 1 < y
  · by_cases c2 : min l.rk r.rk + 1 < r.rk
    · cases r with
      | nil =>
        have : RT.nil.rk = 0 := rfl
        omega
      | node a j b x =>
        have eL : lower (.node l k (.node a j b x) y) = .node l k (.node a j b (min l.rk x + 1)) (min l.rk x + 1) := by
          rw [lower_eq, if_pos c1, if_pos c2]
          rfl
        rw [eL]
        have t := v_tail l k (.node a j b (min l.rk x + 1)) (min l.rk x + 1) (some (.tuple [encR l, .int k, .tuple [encR a, .int j, encR b, .int x], .int y])) (some (.int (min l.rk x + 1))) (n := m) (by omega)
        have er : (RT.node a j b x).rk = x := rfl
        rw [er] at hr ed c1 c2
        simp only [encR_node] at hr t
        simp [hl, hr, ed, c1, c2, t]
    · have eL : lower (.node l k r y) = .node l k r (min l.rk r.rk + 1) := by
        rw [lower_eq, if_pos c1, if_neg c2]
        rfl
      rw [eL]
      have t := v_tail l k r (min l.rk r.rk + 1) (some (.tuple [encR l, .int k, encR r, .int y])) (some (.int (min l.rk r.rk + 1))) (n := m) (by omega)
      simp [hl, hr, ed, c1, c2, t]
  · have eL : lower (.node l k r y) = .node l k r y := by
      rw [lower_eq, if_neg c1]
    rw [eL]
    have t := v_tail l k r y (some (.tuple [encR l, .int k, encR r, .int y])) (some (.int (min l.rk r.rk + 1))) (n := m) (by omega)
    simp [hl, hr, ed, c1, t]
/-! keys -/
theorem skew_keys : ∀ t : RT, (bare (skew t)).keys = (bare t).keys
  | .nil => rfl
  | .node .nil _ _ _ => rfl
  | .node (.node a j b x) k r y => by
    rw [skew]
    split
    · simp [bare, T.keys]
    · rfl
theorem split_keys : ∀ t : RT, (bare (split t)).keys = (bare t).keys
  | .nil => rfl
  | .node _ _ .nil _ => rfl
  | .node _ _ (.node _ _ .nil _) _ => rfl
  | .node l k (.node a j (.node b i c z) x) y => by
    rw [split]
    split
    · simp [bare, T.keys]
    · rfl
theorem onR_keys {f : RT → RT} (hf : ∀ t, (bare (f t)).keys = (bare t).keys) : ∀ t : RT, (bare (onR f t)).keys = (bare t).keys
  | .nil => rfl
  | .node l k r y => keys_node rfl (hf r)
theorem bare_setRk (y : Int) (t : RT) : bare (setRk y t) = bare t := by cases t <;> rfl
theorem lower_keys (t : RT) : (bare (lower t)).keys = (bare t).keys := by
  simp only [lower]
  split
  · rw [bare_setRk]
    split
    · exact onR_keys (fun t => by rw [bare_setRk]) t
    · rfl
  · rfl
theorem setBack_keys (t : RT) : (bare (setBack t)).keys = (bare t).keys := by
  unfold setBack
  rw [onR_keys split_keys, split_keys, onR_keys (onR_keys skew_keys), onR_keys skew_keys, skew_keys, lower_keys]
theorem putIn_keys : ∀ (t : RT) (k : Int), (bare (putIn t k)).keys = (withLeaf (bare t) k).keys
  | .nil, _ => rfl
  | .node l x r y, k => by
    unfold putIn
    rw [bare, withLeaf]
    split
    · rw [split_keys, skew_keys]
      exact keys_node (putIn_keys l k) rfl
    · rw [split_keys, skew_keys]
      exact keys_node rfl (putIn_keys r k)
theorem isNilR (t : RT) : (bare t).isNil = t.isNil := by cases t <;> rfl
theorem leastR : ∀ t : RT, least (bare t) = t.least
  | .nil => rfl
  | .node l k r y => by rw [bare, least, RT.least, isNilR, leastR l]
theorem greatestR : ∀ t : RT, greatest (bare t) = t.greatest
  | .nil => rfl
  | .node l k r y => by rw [bare, greatest, RT.greatest, isNilR, greatestR r]
theorem v_leastR : ∀ (t : RT) (n : Nat), t.size + 1 ≤ n → t.isNil = false → callD n .least [encR t] = some (.int t.least) := by
  intro t
  induction t with
  | nil => intro n _ h; exact nomatch h
  | node l x r y ihl ihr =>
    intro n hn _
    simp only [RT.size] at hn
    obtain ⟨m, rfl, hm⟩ := up (c := l.size + 1 + r.size) hn
    refine k_least ?_
    cases hl : l.isNil with
    | true => simp [c_least, RT.least, hl]
    | false => simp [c_least, RT.least, hl, ihl m (by omega) hl]
theorem v_greatestR : ∀ (t : RT) (n : Nat), t.size + 1 ≤ n → t.isNil = false → callD n .greatest [encR t] = some (.int t.greatest) := by
  intro t
  induction t with
  | nil => intro n _ h; exact nomatch h
  | node l x r y ihl ihr =>
    intro n hn _
    simp only [RT.size] at hn
    obtain ⟨m, rfl, hm⟩ := up (c := l.size + 1 + r.size) hn
    refine k_greatest ?_
    cases hl : r.isNil with
    | true => simp [c_greatest, RT.greatest, hl]
    | false => simp [c_greatest, RT.greatest, hl, ihr m (by omega) hl]
theorem v_take_out : ∀ (t : RT) (k : Int) (n : Nat), t.size + 4 ≤ n → t.pos → Bst (bare t) → k ∈ (bare t).keys → callD n .take_out [encR t, .int k] = some (encR (takeOut t k)) := by
  intro t
  induction t with
  | nil => intro k n _ _ _ hk; exact absurd hk not_mem_nil
  | node l x r y ihl ihr =>
    intro k n hn hp hb hk
    simp only [RT.size] at hn
    rw [bare] at hb hk
    obtain ⟨m, rfl, hm⟩ := up (c := l.size + r.size + 4) (n := n) (by clear ihl ihr; omega)
    refine k_take_out ?_
    by_cases c : k < x
    · have g := v_set_back (takeOut l k) x r y ⟨pos_takeOut hp.1, hp.2.1, hp.2.2⟩ (n := m) (by omega)
      simp [c_take_out, takeOut, c, ihl k m (by omega) hp.1 hb.1 (in_left hb hk c), g]
    · by_cases c2 : x < k
      · have g := v_set_back l x (takeOut r k) y ⟨hp.1, pos_takeOut hp.2.1, hp.2.2⟩ (n := m) (by omega)
        simp [c_take_out, takeOut, c, c2, ihr k m (by omega) hp.2.1 hb.2.1 (in_right hb hk c2), g]
      · cases hl : l.isNil with
        | true =>
          cases hr : r.isNil with
          | true => simp [c_take_out, takeOut, c, c2, hl, hr]
          | false =>
            have lm := least_mem (t := bare r) (by rw [isNilR]; exact hr)
            rw [leastR] at lm
            have g := v_set_back l r.least (takeOut r r.least) y ⟨hp.1, pos_takeOut hp.2.1, hp.2.2⟩ (n := m) (by omega)
            simp [c_take_out, takeOut, c, c2, hl, hr, v_leastR r m (by omega) hr, ihr r.least m (by omega) hp.2.1 hb.2.1 lm, g]
        | false =>
          have lm := greatest_mem (t := bare l) (by rw [isNilR]; exact hl)
          rw [greatestR] at lm
          have g := v_set_back (takeOut l l.greatest) l.greatest r y ⟨pos_takeOut hp.1, hp.2.1, hp.2.2⟩ (n := m) (by omega)
          simp [c_take_out, takeOut, c, c2, hl, v_greatestR l m (by omega) hl, ihl l.greatest m (by omega) hp.1 hb.1 lm, g]
end TT
set_option Elab.async false
set_option linter.all false
set_option maxRecDepth 100000
set_option maxHeartbeats 4000000
/-! Rules: keys behind a deed; what the program's defs give. -/
namespace TT
open PySem L2
theorem takeOut_both : ∀ (t : RT) (k : Int), Bst (bare t) → k ∈ (bare t).keys → (∀ y, y ∈ (bare (takeOut t k)).keys ↔ y ∈ (bare t).keys ∧ y ≠ k) ∧ Bst (bare (takeOut t k))
  | .nil, _, _, h => absurd h not_mem_nil
  | .node l x r y0, k, hb, hk => by
    have hb' : Bst (.node (bare l) x (bare r)) := hb
    have hk' : k ∈ (T.node (bare l) x (bare r)).keys := hk
    obtain ⟨h1, h2, h3, h4⟩ := hb'
    have fin : ∀ (l' r' : RT) (x' : Int), (∀ y, y ∈ (T.node (bare l') x' (bare r')).keys ↔ y ∈ (T.node (bare l) x (bare r)).keys ∧ y ≠ k) → Bst (.node (bare l') x' (bare r')) →
        (∀ y, y ∈ (bare (setBack (.node l' x' r' y0))).keys ↔ y ∈ (bare (.node l x r y0)).keys ∧ y ≠ k) ∧ Bst (bare (setBack (.node l' x' r' y0))) := fun l' r' x' hm hb => by
      have e := setBack_keys (.node l' x' r' y0)
      refine ⟨fun y => ?_, Bst.congr (t := .node (bare l') x' (bare r')) hb e⟩
      rw [e]
      exact hm y
    unfold takeOut
    split
    · rename_i c
      have hl := in_left hb hk' c
      obtain ⟨m, b⟩ := takeOut_both l k h1 hl
      refine fin _ _ _ (fun y => ?_) ⟨b, h2, fun y hy => h3 y ((m y).mp hy).1, h4⟩
      rw [mem_node, mem_node, m y]
      constructor
      · rintro (⟨a, b⟩ | a | a)
        · exact ⟨.inl a, b⟩
        · exact ⟨.inr (.inl a), by omega⟩
        · exact ⟨.inr (.inr a), by have := h4 y a; omega⟩
      · rintro ⟨a | a | a, b⟩
        · exact .inl ⟨a, b⟩
        · exact .inr (.inl a)
        · exact .inr (.inr a)
    · split
      · rename_i c0 c
        have hl := in_right hb hk' c
        obtain ⟨m, b⟩ := takeOut_both r k h2 hl
        refine fin _ _ _ (fun y => ?_) ⟨h1, b, h3, fun y hy => h4 y ((m y).mp hy).1⟩
        rw [mem_node, mem_node, m y]
        constructor
        · rintro (a | a | ⟨a, b⟩)
          · exact ⟨.inl a, by have := h3 y a; omega⟩
          · exact ⟨.inr (.inl a), by omega⟩
          · exact ⟨.inr (.inr a), b⟩
        · rintro ⟨a | a | a, b⟩
          · exact .inl a
          · exact .inr (.inl a)
          · exact .inr (.inr ⟨a, b⟩)
      · rename_i c0 c
        have e : k = x := by omega
        subst e
        split
        · rename_i cn
          rw [Bool.and_eq_true, ← isNilR, ← isNilR] at cn
          have e1 := isNil_eq cn.1
          have e2 := isNil_eq cn.2
          refine ⟨fun y => ?_, trivial⟩
          show y ∈ T.nil.keys ↔ y ∈ (T.node (bare l) k (bare r)).keys ∧ y ≠ k
          rw [e1, e2, mem_node]
          constructor
          · exact fun a => absurd a not_mem_nil
          · rintro ⟨a | a | a, b⟩
            · exact absurd a not_mem_nil
            · exact absurd a b
            · exact absurd a not_mem_nil
        · rename_i cn
          split
          · rename_i cl
            have cr : (bare r).isNil = false := by
              rw [isNilR]
              cases q : r.isNil
              · rfl
              · rw [cl, q] at cn
                exact absurd rfl cn
            have lm := least_mem cr
            have lo := least_le h2
            rw [leastR] at lm lo
            obtain ⟨m, b⟩ := takeOut_both r r.least h2 lm
            rw [← isNilR] at cl
            have el := isNil_eq cl
            refine fin _ _ _ (fun y => ?_) ⟨h1, b, fun y hy => by rw [el] at hy; exact absurd hy not_mem_nil, fun y hy => ?_⟩
            · rw [mem_node, mem_node, m y, el]
              constructor
              · rintro (a | a | ⟨a, b⟩)
                · exact absurd a not_mem_nil
                · rw [a]; exact ⟨.inr (.inr lm), by have := h4 _ lm; omega⟩
                · exact ⟨.inr (.inr a), by have := h4 y a; omega⟩
              · rintro ⟨a | a | a, b⟩
                · exact absurd a not_mem_nil
                · exact absurd a b
                · by_cases q : y = r.least
                  · exact .inr (.inl q)
                  · exact .inr (.inr ⟨a, q⟩)
            · obtain ⟨a, b⟩ := (m y).mp hy
              have := lo y a
              omega
          · rename_i cl
            have cl' : (bare l).isNil = false := by
              rw [isNilR]
              simpa using cl
            have lm := greatest_mem cl'
            have lo := greatest_ge h1
            rw [greatestR] at lm lo
            obtain ⟨m, b⟩ := takeOut_both l l.greatest h1 lm
            refine fin _ _ _ (fun y => ?_) ⟨b, h2, fun y hy => ?_, fun y hy => ?_⟩
            · rw [mem_node, mem_node, m y]
              constructor
              · rintro (⟨a, b⟩ | a | a)
                · exact ⟨.inl a, by have := h3 y a; omega⟩
                · rw [a]; exact ⟨.inl lm, by have := h3 _ lm; omega⟩
                · exact ⟨.inr (.inr a), by have := h4 y a; omega⟩
              · rintro ⟨a | a | a, b⟩
                · by_cases q : y = l.greatest
                  · exact .inr (.inl q)
                  · exact .inl ⟨a, q⟩
                · exact absurd a b
                · exact .inr (.inr a)
            · obtain ⟨a, b⟩ := (m y).mp hy
              have := lo y a
              omega
            · have := h3 _ lm
              have := h4 y hy
              omega
/-! plant -/
theorem plantN_both : ∀ (n : Nat) (ks : List Int), ks.length ≤ n → (∀ y, y ∈ (plantN n ks).keys ↔ y ∈ ks) ∧ Bst (plantN n ks) := by
  intro n
  induction n with
  | zero =>
    intro ks h
    have e : ks = [] := List.eq_nil_of_length_eq_zero (by omega)
    subst e
    exact ⟨fun y => by simp [plantN, T.keys], by simp [plantN, Bst]⟩
  | succ n ih =>
    intro ks h
    cases ks with
    | nil => exact ⟨fun y => by simp [plantN, T.keys], by simp [plantN, Bst]⟩
    | cons x r =>
      simp only [List.length_cons] at h
      have l1 : (r.filter fun y => decide (y < x)).length ≤ n := Nat.le_trans (List.length_filter_le _ _) (by omega)
      have l2 : (r.filter fun y => decide (x < y)).length ≤ n := Nat.le_trans (List.length_filter_le _ _) (by omega)
      obtain ⟨m1, b1⟩ := ih _ l1
      obtain ⟨m2, b2⟩ := ih _ l2
      unfold plantN
      refine ⟨fun y => ?_, b1, b2, fun y hy => ?_, fun y hy => ?_⟩
      · rw [mem_node, m1, m2, List.mem_filter, List.mem_filter, List.mem_cons, decide_eq_true_eq, decide_eq_true_eq]
        constructor
        · rintro (⟨a, _⟩ | a | ⟨a, _⟩)
          · exact .inr a
          · exact .inl a
          · exact .inr a
        · rintro (a | a)
          · exact .inr (.inl a)
          · by_cases c : y < x
            · exact .inl ⟨a, c⟩
            · by_cases c2 : x < y
              · exact .inr (.inr ⟨a, c2⟩)
              · exact .inr (.inl (by omega))
      · rw [m1, List.mem_filter, decide_eq_true_eq] at hy
        exact hy.2
      · rw [m2, List.mem_filter, decide_eq_true_eq] at hy
        exact hy.2
theorem plant_mem (ks : List Int) (y : Int) : y ∈ (plant ks).keys ↔ y ∈ ks := (plantN_both _ ks (Nat.le_refl _)).1 y
theorem plant_bst (ks : List Int) : Bst (plant ks) := (plantN_both _ ks (Nat.le_refl _)).2
theorem plantN_eq : ∀ (n : Nat) (ks : List Int), ks.length ≤ n → plantN n ks = plant ks := by
  have key : ∀ (a b : Nat) (ks : List Int), ks.length ≤ a → ks.length ≤ b → plantN a ks = plantN b ks := by
    intro a
    induction a with
    | zero =>
      intro b ks h1 h2
      have e : ks = [] := List.eq_nil_of_length_eq_zero (by omega)
      subst e
      cases b <;> simp [plantN]
    | succ a ih =>
      intro b ks h1 h2
      cases ks with
      | nil => cases b <;> simp [plantN]
      | cons x r =>
        simp only [List.length_cons] at h1 h2
        cases b with
        | zero => omega
        | succ b =>
          have l1 : (r.filter fun y => decide (y < x)).length ≤ r.length := List.length_filter_le _ _
          have l2 : (r.filter fun y => decide (x < y)).length ≤ r.length := List.length_filter_le _ _
          unfold plantN
          rw [ih b (r.filter fun y => decide (y < x)) (by omega) (by omega), ih b (r.filter fun y => decide (x < y)) (by omega) (by omega)]
  exact fun n ks h => key n ks.length ks h (Nat.le_refl _)
theorem plant_cons (x : Int) (r : List Int) : plant (x :: r) = .node (plant (r.filter fun y => decide (y < x))) x (plant (r.filter fun y => decide (x < y))) := by
  show plantN (r.length + 1) (x :: r) = _
  unfold plantN
  rw [plantN_eq _ _ (List.length_filter_le _ _), plantN_eq _ _ (List.length_filter_le _ _)]
theorem plant_nil : plant [] = .nil := rfl
/-! comprehensions over ints -/
theorem compGo_ints {fc : D → Option Bool} {fe : D → Option D} (p : Int → Bool) : ∀ xs : List Int, (∀ x ∈ xs, fc (.int x) = some (p x)) → (∀ x ∈ xs, fe (.int x) = some (.int x)) → compGo fc fe (xs.map PyData.int) = some ((xs.filter p).map PyData.int)
  | [], _, _ => rfl
  | x :: xs, h1, h2 => by
    have ih := compGo_ints p xs (fun y hy => h1 y (List.mem_cons_of_mem _ hy)) (fun y hy => h2 y (List.mem_cons_of_mem _ hy))
    rw [List.map_cons, compGo, h1 x List.mem_cons_self]
    rw [Option.bind_some]
    cases hp : p x with
    | true =>
      rw [if_pos rfl, h2 x List.mem_cons_self]
      rw [Option.bind_some, if_pos (show flatD (.int x) = true from rfl), ih, List.filter_cons_of_pos hp]
      rfl
    | false =>
      rw [if_neg Bool.false_ne_true, ih, List.filter_cons_of_neg (by rw [hp]; exact Bool.false_ne_true)]
theorem getE_set {ρ : Rho} {i : Nat} {d : D} (h : i < ρ.length) : getE (setE ρ i d) i = some d := by
  induction ρ generalizing i with
  | nil => simp at h
  | cons a r ih =>
    cases i with
    | zero => rfl
    | succ i => exact ih (by simpa using h)
/-- [x for x in xs if ..] -/
theorem e_filter {M : Sg} {l : Bool} {i : Nat} {src cond : C} {ρ : Rho} {xs : List Int} (p : Int → Bool) (hi : i < ρ.length) (hs : ev M src ρ = some (if l then .list (xs.map PyData.int) else .tuple (xs.map PyData.int))) (hn : isNil cond = false) (hl : xs.length ≤ 1000)
    (hc : ∀ x ∈ xs, (ev M cond (setE ρ i (.int x))).bind asB = some (p x)) : ev M (.comp l i src cond (.var i)) ρ = some (.list ((xs.filter p).map PyData.int)) := by
  have e : compGo (fun d => if isNil cond = true then some true else (ev M cond (setE ρ i d)).bind asB) (fun d => ev M (.var i) (setE ρ i d)) (xs.map PyData.int) = some ((xs.filter p).map PyData.int) := by
    refine compGo_ints p xs (fun x hx => ?_) fun x _ => getE_set hi
    rw [hn]
    exact hc x hx
  rw [e_comp, hs]
  cases l
  · simp only [Option.bind_some, asT_t, Bool.false_eq_true, if_false, List.length_map, hl, if_true, e]
  · simp only [Option.bind_some, asL_l, if_true, List.length_map, hl, e]
theorem inD_ints (x : Int) (ks : List Int) : inD (.int x) (ks.map PyData.int) = decide (x ∈ ks) := by
  unfold inD
  rw [List.any_map]
  induction ks with
  | nil => rfl
  | cons k r ih =>
    rw [List.any_cons, ih]
    show ((k == x) || decide (x ∈ r)) = _
    by_cases c : x = k
    · subst c; simp
    · have : ¬ k = x := fun e => c e.symm
      simp [this, c]
theorem flat_ints (ks : List Int) : (ks.map PyData.int).all flatD = true := by
  rw [List.all_map]
  exact List.all_eq_true.mpr fun _ _ => rfl
@[simp] theorem o_inL {x : Int} {ks : List Int} : op2 .inn (.int x) (.list (ks.map PyData.int)) = some (.bool (decide (x ∈ ks))) := by
  rw [o_inn, seq_l, Option.bind_some, flat_ints, inD_ints]
  rfl
theorem byOrder_eq (o ks : List Int) : byOrder o ks = plant (o.filter fun y => decide (y ∈ ks)) := rfl
/-- the ways through by_order -/
theorem byOrder_cons {o ks zs : List Int} {z : Int} (hnd : o.Nodup) (e : (o.filter fun y => decide (y ∈ ks)) = z :: zs) :
    byOrder o ks = .node (byOrder o (ks.filter fun y => decide (y < z))) z (byOrder o (ks.filter fun y => decide (z < y))) := by
  have hz : ∀ (p : Int → Bool), p z = false → (o.filter fun y => decide (y ∈ ks.filter p)) = zs.filter p := fun p hp => by
    have : (o.filter fun y => decide (y ∈ ks.filter p)) = (o.filter fun y => decide (y ∈ ks)).filter p := by
      rw [List.filter_filter]
      congr 1
      funext y
      simp only [List.mem_filter, Bool.decide_and]
      cases p y <;> simp
    rw [this, e, List.filter_cons_of_neg (by rw [hp]; exact Bool.false_ne_true)]
  rw [byOrder_eq, byOrder_eq, byOrder_eq, e, plant_cons, hz _ (by simp), hz _ (by simp)]
theorem byOrder_nil (o : List Int) : byOrder o [] = .nil := by
  have : (o.filter fun y => decide (y ∈ ([] : List Int))) = [] := List.filter_eq_nil_iff.mpr fun y _ => by simp
  rw [byOrder_eq, this, plant_nil]
theorem v_by_order (o : List Int) (hnd : o.Nodup) (ho : o.length ≤ 100) : ∀ (f : Nat) (ks : List Int) (n : Nat), ks.length ≤ f → f ≤ 100 → f + 1 ≤ n → (∀ y ∈ ks, y ∈ o) → callD n .by_order [.list (ks.map PyData.int), .tuple (o.map PyData.int)] = some (enc (byOrder o ks)) := by
  intro f
  induction f with
  | zero =>
    intro ks n hf _ hn hs
    have e : ks = [] := List.eq_nil_of_length_eq_zero (by omega)
    subst e
    obtain ⟨m, rfl, hm⟩ := up (c := 0) hn
    refine k_by_order ?_
    simp [c_by_order, byOrder_nil]
  | succ f ih =>
    intro ks n hf hf2 hn hs
    obtain ⟨m, rfl, hm⟩ := up (c := f + 1) hn
    refine k_by_order ?_
    cases ks with
    | nil =>
      simp [c_by_order, byOrder_nil]
    | cons k0 kr =>
      generalize hks : k0 :: kr = ks at *
      have hne : ks.isEmpty = false := by rw [← hks]; rfl
      have h0 : k0 ∈ ks := by rw [← hks]; exact List.mem_cons_self
      cases hf0 : (o.filter fun y => decide (y ∈ ks)) with
      | nil =>
        have : k0 ∈ (o.filter fun y => decide (y ∈ ks)) := List.mem_filter.mpr ⟨hs k0 h0, by simpa using h0⟩
        rw [hf0] at this
        cases this
      | cons z zs =>
        have hz : z ∈ ks := by
          have : z ∈ (o.filter fun y => decide (y ∈ ks)) := by rw [hf0]; exact List.mem_cons_self
          simpa using (List.mem_filter.mp this).2
        have lt : ∀ (p : Int → Bool), p z = false → (ks.filter p).length ≤ f := fun p hp => by
          have : (ks.filter p).length < ks.length := by
            refine Nat.lt_of_le_of_ne (List.length_filter_le _ _) fun e => ?_
            have := List.length_filter_eq_length_iff.mp e z hz
            rw [hp] at this
            cases this
          omega
        have e1 := e_filter (M := ⟨callD m, lvD m⟩) (l := false) (i := 3) (src := .var 1) (cond := .b2 .inn (.var 3) (.var 0)) (ρ := [some (.list (ks.map PyData.int)), some (.tuple (o.map PyData.int)), none, none]) (xs := o) (fun y => decide (y ∈ ks)) (by simp) rfl rfl (by omega) (fun x _ => by simp only [e_b2, e_var, t_3, g_0, g_3, Option.bind_some, o_inL, asB_b])
        have e2 := e_filter (M := ⟨callD m, lvD m⟩) (l := true) (i := 3) (src := .var 0) (cond := .b2 .lt (.var 3) (.var 2)) (ρ := [some (.list (ks.map PyData.int)), some (.tuple (o.map PyData.int)), some (.int z), none]) (xs := ks) (fun y => decide (y < z)) (by simp) rfl rfl (by omega) (fun x _ => by simp)
        have e3 := e_filter (M := ⟨callD m, lvD m⟩) (l := true) (i := 3) (src := .var 0) (cond := .b2 .gt (.var 3) (.var 2)) (ρ := [some (.list (ks.map PyData.int)), some (.tuple (o.map PyData.int)), some (.int z), none]) (xs := ks) (fun y => decide (z < y)) (by simp) rfl rfl (by omega) (fun x _ => by simp)
        have i1 := ih (ks.filter fun y => decide (y < z)) m (lt _ (by simp)) (by omega) (by omega) (fun y hy => hs y (List.mem_filter.mp hy).1)
        have i2 := ih (ks.filter fun y => decide (z < y)) m (lt _ (by simp)) (by omega) (by omega) (fun y hy => hs y (List.mem_filter.mp hy).1)
        rw [byOrder_cons hnd hf0]
        rw [hf0, List.map_cons] at e1
        generalize (ks.filter fun y => decide (y < z)) = k1 at *
        generalize (ks.filter fun y => decide (z < y)) = k2 at *
        simp [c_by_order, hne, e1, e2, e3, i1, i2]
end TT
set_option Elab.async false
set_option linter.all false
set_option maxRecDepth 100000
set_option maxHeartbeats 4000000
/-! Rules, deeds, rows: what the program's defs give. -/
namespace TT
open PySem L2
def Rule.tag : Rule → Nat
  | .heights => 0
  | .levels => 1
  | .once => 2
  | .plain => 3
  | .rebuilt => 4
  | .splayed => 5
  | .top => 6
  | .weights => 7
  | .ranks _ => 8
def Rule.isHW : Rule → Bool
  | .heights => true
  | .weights => true
  | _ => false
def Rule.isFam : Rule → Bool
  | .ranks _ => false
  | _ => true
def W.tag : W → Nat
  | .ask => 0
  | .inn => 1
  | .out => 2
theorem rkn_heights : (Str.ofString "ranks" == Str.ofString "heights") = false := by decide +kernel
theorem rkn_levels : (Str.ofString "ranks" == Str.ofString "levels") = false := by decide +kernel
theorem rkn_once : (Str.ofString "ranks" == Str.ofString "once") = false := by decide +kernel
theorem rkn_rebuilt : (Str.ofString "ranks" == Str.ofString "rebuilt") = false := by decide +kernel
theorem rkn_splayed : (Str.ofString "ranks" == Str.ofString "splayed") = false := by decide +kernel
theorem rkn_top : (Str.ofString "ranks" == Str.ofString "top") = false := by decide +kernel
theorem rkn_ranks : (Str.ofString "ranks" == Str.ofString "ranks") = true := by decide +kernel
theorem rk_name (o : List Int) : Rule.name (.ranks o) = "ranks" := rfl
@[simp] theorem nm_heights (r : Rule) : (r.name == Str.ofString "heights") = decide (r.tag = 0) := by
  cases r with
  | ranks o => exact rkn_heights
  | _ => decide +kernel
@[simp] theorem nm_levels (r : Rule) : (r.name == Str.ofString "levels") = decide (r.tag = 1) := by
  cases r with
  | ranks o => exact rkn_levels
  | _ => decide +kernel
@[simp] theorem nm_once (r : Rule) : (r.name == Str.ofString "once") = decide (r.tag = 2) := by
  cases r with
  | ranks o => exact rkn_once
  | _ => decide +kernel
@[simp] theorem nm_rebuilt (r : Rule) : (r.name == Str.ofString "rebuilt") = decide (r.tag = 4) := by
  cases r with
  | ranks o => exact rkn_rebuilt
  | _ => decide +kernel
@[simp] theorem nm_splayed (r : Rule) : (r.name == Str.ofString "splayed") = decide (r.tag = 5) := by
  cases r with
  | ranks o => exact rkn_splayed
  | _ => decide +kernel
@[simp] theorem nm_top (r : Rule) : (r.name == Str.ofString "top") = decide (r.tag = 6) := by
  cases r with
  | ranks o => exact rkn_top
  | _ => decide +kernel
@[simp] theorem nm_ranks (r : Rule) : (r.name == Str.ofString "ranks") = decide (r.tag = 8) := by
  cases r with
  | ranks o => exact rkn_ranks
  | _ => decide +kernel
@[simp] theorem o_hw (r : Rule) : op2 .inn (.str r.name) (.tuple [.str (Str.ofString "heights"), .str (Str.ofString "weights")]) = some (.bool r.isHW) := by
  rw [o_inn, seq_t, Option.bind_some]
  show some (PyData.bool (inD (.str r.name) [.str (Str.ofString "heights"), .str (Str.ofString "weights")])) = _
  have : inD (.str r.name) [.str (Str.ofString "heights"), .str (Str.ofString "weights")] = r.isHW := by
    cases r <;> first | (rename_i o; show inD (.str (Str.ofString "ranks")) _ = false; decide +kernel) | decide +kernel
  rw [this]
@[simp] theorem o_fam (r : Rule) : op2 .inn (.str r.name) (gval .FAMILY) = some (.bool r.isFam) := by
  rw [o_inn]
  show some (PyData.bool (inD (.str r.name) [.str (Str.ofString "heights"), .str (Str.ofString "levels"), .str (Str.ofString "once"), .str (Str.ofString "plain"), .str (Str.ofString "rebuilt"), .str (Str.ofString "splayed"), .str (Str.ofString "top"), .str (Str.ofString "weights")])) = _
  have : inD (.str r.name) [.str (Str.ofString "heights"), .str (Str.ofString "levels"), .str (Str.ofString "once"), .str (Str.ofString "plain"), .str (Str.ofString "rebuilt"), .str (Str.ofString "splayed"), .str (Str.ofString "top"), .str (Str.ofString "weights")] = r.isFam := by
    cases r <;> first | (rename_i o; show inD (.str (Str.ofString "ranks")) _ = false; decide +kernel) | decide +kernel
  rw [this]
@[simp] theorem ws_ask (w : W) : (w.str == Str.ofString "ask") = decide (w.tag = 0) := by cases w <;> decide +kernel
@[simp] theorem ws_in (w : W) : (w.str == Str.ofString "in") = decide (w.tag = 1) := by cases w <;> decide +kernel
@[simp] theorem ws_out (w : W) : (w.str == Str.ofString "out") = decide (w.tag = 2) := by cases w <;> decide +kernel
@[simp] theorem o_words (w : W) : op2 .inn (.str w.str) (.tuple [.str (Str.ofString "ask"), .str (Str.ofString "in"), .str (Str.ofString "out")]) = some (.bool true) := by
  rw [o_inn, seq_t, Option.bind_some]
  show some (PyData.bool (inD (.str w.str) [.str (Str.ofString "ask"), .str (Str.ofString "in"), .str (Str.ofString "out")])) = _
  have : inD (.str w.str) [.str (Str.ofString "ask"), .str (Str.ofString "in"), .str (Str.ofString "out")] = true := by cases w <;> decide +kernel
  rw [this]
def RuleOk : Rule → Prop
  | .ranks o => o.Perm [1, 2, 3, 4, 5, 6]
  | _ => True
def Poss (t : T) : W → Int → Prop
  | .inn, k => ¬ k ∈ t.keys
  | _, k => k ∈ t.keys
theorem mem6 {o : List Int} (h : o.Perm [1, 2, 3, 4, 5, 6]) {y : Int} (h1 : 1 ≤ y) (h2 : y ≤ 6) : y ∈ o := by
  rw [h.mem_iff]
  have : y = 1 ∨ y = 2 ∨ y = 3 ∨ y = 4 ∨ y = 5 ∨ y = 6 := by omega
  rcases this with rfl | rfl | rfl | rfl | rfl | rfl <;> decide
theorem nd6 {o : List Int} (h : o.Perm [1, 2, 3, 4, 5, 6]) : o.Nodup := h.nodup_iff.mpr (by decide)
theorem len6 {o : List Int} (h : o.Perm [1, 2, 3, 4, 5, 6]) : o.length = 6 := h.length_eq
theorem v_moved (ru : Rule) (t : T) (k : Int) {n : Nat} (hn : t.size + 5 ≤ n) (hz : t.size ≤ 50) (hb : Bst t) (hk : k ∈ t.keys) : callD n .moved [encRule ru, enc t, .int k] = some (enc (movedT ru t k)) := by
  obtain ⟨m, rfl, hm⟩ := up (c := t.size + 4) hn
  refine k_moved ?_
  cases ru <;> simp [c_moved, encRule, Rule.tag, movedT, v_once_up (t := t) (k := k) (n := m) (by omega) hb hk, v_to_top (t := t) (k := k) (n := m) (by omega) (by omega) hb hk, v_splayed (t := t) (k := k) (n := m) (by omega) (by omega) hb hk]
theorem wd_h : Rule.name .heights = wd true := rfl
theorem wd_w : Rule.name .weights = wd false := rfl
theorem v_with_key (ru : Rule) (hr : RuleOk ru) (t : T) (k : Int) {n : Nat} (hn : t.size + 8 ≤ n) (hz : t.size ≤ 40) (hb : Bst t) (hk : ¬ k ∈ t.keys) (h6 : Keys6 t) (k6 : 1 ≤ k ∧ k ≤ 6) : callD n .with_key [encRule ru, enc t, .int k] = some (enc (withKey ru t k)) := by
  obtain ⟨m, rfl, hm⟩ := up (c := t.size + 7) hn
  have wl := withLeaf_size t k
  have wb := withLeaf_bst t k hb hk
  have wk : k ∈ (withLeaf t k).keys := (withLeaf_mem t k).mpr (.inl rfl)
  have g1 := v_with_leaf t k m (by omega)
  have mv := fun ru => v_moved ru (withLeaf t k) k (n := m) (by omega) (by omega) wb wk
  refine k_with_key ?_
  cases ru with
  | heights => have := v_put_right true t k m (by omega); rw [← wd_h] at this; simp [c_with_key, encRule, Rule.tag, Rule.isHW, withKey, this]
  | weights => have := v_put_right false t k m (by omega); rw [← wd_w] at this; simp [c_with_key, encRule, Rule.tag, Rule.isHW, withKey, this]
  | levels => simp [c_with_key, encRule, Rule.tag, Rule.isHW, withKey, v_ranked t m (by omega), v_put_in (ranked t) k m (by rw [ranked_size]; omega), v_bare (putIn (ranked t) k) m (by
      rw [← bare_size, size_congr (putIn_keys _ _), withLeaf_size, bare_ranked]; omega)]
  | rebuilt => simp [c_with_key, encRule, Rule.tag, Rule.isHW, withKey, v_put_rebuilt t k (n := m) (by omega) (by omega)]
  | ranks o =>
    have kl := keys_len t
    have g := v_by_order o (nd6 hr) (by rw [len6 hr]; omega) (t.keys ++ [k]).length (t.keys ++ [k]) m (Nat.le_refl _) (by rw [List.length_append, List.length_singleton]; omega) (by rw [List.length_append, List.length_singleton]; omega) (fun y hy => by
      rcases List.mem_append.mp hy with h | h
      · have := h6 y h; exact mem6 hr this.1 this.2
      · rw [List.mem_singleton.mp h]; exact mem6 hr k6.1 k6.2)
    rw [List.map_append] at g
    simp only [List.map_cons, List.map_nil] at g
    have hl : (t.keys.map PyData.int).length + ([PyData.int k] : List D).length ≤ 1000 := by rw [List.length_map, List.length_singleton]; omega
    have tl : Rule.tail (.ranks o) = [.tuple (o.map PyData.int)] := rfl
    simp [c_with_key, encRule, tl, Rule.tag, Rule.isHW, withKey, v_keys_of t m (by omega) (by omega), g, -List.length_map]
    rw [if_pos (by rw [List.length_map]; omega)]
    simp [g]
  | once => have := mv .once; simp [encRule] at this; simp [c_with_key, encRule, Rule.tag, Rule.isHW, withKey, g1, this]
  | plain => have := mv .plain; simp [encRule] at this; simp [c_with_key, encRule, Rule.tag, Rule.isHW, withKey, g1, this]
  | splayed => have := mv .splayed; simp [encRule] at this; simp [c_with_key, encRule, Rule.tag, Rule.isHW, withKey, g1, this]
  | top => have := mv .top; simp [encRule] at this; simp [c_with_key, encRule, Rule.tag, Rule.isHW, withKey, g1, this]
theorem takeOut_size (t : T) (k : Int) (hb : Bst t) (hk : k ∈ t.keys) : (bare (takeOut (ranked t) k)).size ≤ t.size := by
  have h := takeOut_both (ranked t) k (by rw [bare_ranked]; exact hb) (by rw [bare_ranked]; exact hk)
  rw [bare_ranked] at h
  have e : (bare (takeOut (ranked t) k)).keys = (without t k).keys := by
    refine List.Perm.eq_of_pairwise (fun a b _ _ h1 h2 => absurd h1 (by omega)) ((bst_iff _).mp h.2) ((bst_iff _).mp (without_bst t k hb hk)) ?_
    refine (List.perm_ext_iff_of_nodup ?_ ?_).mpr fun y => by rw [h.1 y, without_mem t k hb hk]
    · exact ((bst_iff _).mp h.2).imp fun h => by omega
    · exact ((bst_iff _).mp (without_bst t k hb hk)).imp fun h => by omega
  rw [size_congr e]
  exact without_size t k
theorem v_without_key (ru : Rule) (hr : RuleOk ru) (t : T) (k : Int) {n : Nat} (hn : t.size + 8 ≤ n) (hz : t.size ≤ 40) (hb : Bst t) (hk : k ∈ t.keys) (h6 : Keys6 t) : callD n .without_key [encRule ru, enc t, .int k] = some (enc (withoutKey ru t k)) := by
  obtain ⟨m, rfl, hm⟩ := up (c := t.size + 7) hn
  have g1 := v_without t k m (by omega) hb hk
  refine k_without_key ?_
  cases ru with
  | heights => have := v_take_right true t k m (by omega) hb hk; rw [← wd_h] at this; simp [c_without_key, encRule, Rule.tag, Rule.isHW, withoutKey, this]
  | weights => have := v_take_right false t k m (by omega) hb hk; rw [← wd_w] at this; simp [c_without_key, encRule, Rule.tag, Rule.isHW, withoutKey, this]
  | levels =>
    have e1 := v_take_out (ranked t) k m (by rw [ranked_size]; omega) (pos_ranked t) (by rw [bare_ranked]; exact hb) (by rw [bare_ranked]; exact hk)
    have e2 := v_bare (takeOut (ranked t) k) m (by
      have := takeOut_size t k hb hk
      rw [← bare_size]; omega)
    simp [c_without_key, encRule, Rule.tag, Rule.isHW, withoutKey, v_ranked t m (by omega), e1, e2]
  | rebuilt => simp [c_without_key, encRule, Rule.tag, Rule.isHW, withoutKey, v_take_rebuilt t k (n := m) (by omega) (by omega) hb hk]
  | ranks o =>
    have kl := keys_len t
    have fl : (t.keys.filter fun y => decide (y ≠ k)).length ≤ t.keys.length := List.length_filter_le _ _
    have g := v_by_order o (nd6 hr) (by rw [len6 hr]; omega) (t.keys.filter fun y => decide (y ≠ k)).length (t.keys.filter fun y => decide (y ≠ k)) m (Nat.le_refl _) (by omega) (by omega) (fun y hy => by
      have := h6 y (List.mem_filter.mp hy).1; exact mem6 hr this.1 this.2)
    have tl : Rule.tail (.ranks o) = [.tuple (o.map PyData.int)] := rfl
    have e := e_filter (M := ⟨callD m, lvD m⟩) (l := true) (i := 3) (src := .call .keys_of (.cons (.var 1) .nil)) (cond := .b2 .ne (.var 3) (.var 2)) (ρ := [some (.tuple [.str (Rule.name (.ranks o)), .tuple (o.map PyData.int)]), some (enc t), some (.int k), none]) (xs := t.keys) (fun y => decide (y ≠ k)) (by simp) (by simp [v_keys_of t m (by omega) (by omega)]) rfl (by omega) (fun x _ => by simp)
    generalize hgk : (t.keys.filter fun y => decide (y ≠ k)) = ks at *
    simp [c_without_key, encRule, tl, Rule.tag, Rule.isHW, withoutKey, e, g]
    simp at hgk
    rw [hgk]
  | splayed => simp [c_without_key, encRule, Rule.tag, Rule.isHW, withoutKey, v_without_splayed (t := t) (k := k) (n := m) (by omega) (by omega) hb hk]
  | once => simp [c_without_key, encRule, Rule.tag, Rule.isHW, withoutKey, g1]
  | plain => simp [c_without_key, encRule, Rule.tag, Rule.isHW, withoutKey, g1]
  | top => simp [c_without_key, encRule, Rule.tag, Rule.isHW, withoutKey, g1]
theorem v_behind (ru : Rule) (hr : RuleOk ru) (t : T) (w : W) (k : Int) {n : Nat} (hn : t.size + 9 ≤ n) (hz : t.size ≤ 40) (hb : Bst t) (hk : Poss t w k) (h6 : Keys6 t) (k6 : 1 ≤ k ∧ k ≤ 6) : callD n .behind [encRule ru, enc t, encDeed w k] = some (enc (behindT ru t w k)) := by
  obtain ⟨m, rfl, hm⟩ := up (c := t.size + 8) hn
  refine k_behind ?_
  cases w with
  | ask => simp [c_behind, encDeed, W.tag, behindT, v_moved ru t k (n := m) (by omega) (by omega) hb hk]
  | inn => simp [c_behind, encDeed, W.tag, behindT, v_with_key ru hr t k (n := m) (by omega) (by omega) hb hk h6 k6]
  | out => simp [c_behind, encDeed, W.tag, behindT, v_without_key ru hr t k (n := m) (by omega) (by omega) hb hk h6]
theorem v_cost_of (t : T) (w : W) (k : Int) {n : Nat} (hn : t.size + 2 ≤ n) : callD n .cost_of [enc t, encDeed w k] = some (.int (costT t w k)) := by
  obtain ⟨m, rfl, hm⟩ := up (c := t.size + 1) hn
  refine k_cost_of ?_
  cases w <;> simp [c_cost_of, encDeed, W.tag, costT, v_way_to t k m hm]
theorem v_is_deed (w : W) (k : Int) {n : Nat} (hn : 2 ≤ n) (k6 : 1 ≤ k ∧ k ≤ 6) : callD n .is_deed [encDeed w k] = some (.bool true) := by
  obtain ⟨m, rfl, hm⟩ := up (c := 1) hn
  refine k_is_deed ?_
  simp [c_is_deed, encDeed, v_is_number (a := k) (lo := 1) (hi := 6) hm, k6.1, k6.2]
theorem v_is_possible (t : T) (w : W) (k : Int) {n : Nat} (hn : t.size + 2 ≤ n) (hz : t.size ≤ 400) (hk : Poss t w k) : callD n .is_possible [enc t, encDeed w k] = some (.bool true) := by
  obtain ⟨m, rfl, hm⟩ := up (c := t.size + 1) hn
  refine k_is_possible ?_
  cases w with
  | ask =>
    have hk : k ∈ t.keys := hk
    simp [c_is_possible, encDeed, W.tag, v_keys_of t m hm (by omega), hk]
  | inn =>
    have hk : ¬ k ∈ t.keys := hk
    simp [c_is_possible, encDeed, W.tag, v_keys_of t m hm (by omega), hk]
  | out =>
    have hk : k ∈ t.keys := hk
    simp [c_is_possible, encDeed, W.tag, v_keys_of t m hm (by omega), hk]
theorem v_need_deed (t : T) (w : W) (k : Int) {n : Nat} (hn : t.size + 4 ≤ n) (hz : t.size ≤ 400) (hk : Poss t w k) (k6 : 1 ≤ k ∧ k ≤ 6) : callD n .need_deed [enc t, encDeed w k] = some .none := by
  obtain ⟨m, rfl, hm⟩ := up (c := t.size + 3) hn
  refine k_need_deed ?_
  simp [c_need_deed, v_is_deed w k (n := m) (by omega) k6, v_is_possible t w k (n := m) (by omega) hz hk]
theorem v_cost (t : T) (w : W) (k : Int) {n : Nat} (hn : t.size + 5 ≤ n) (hz : t.size ≤ 400) (hb : Bst t) (h6 : Keys6 t) (hk : Poss t w k) (k6 : 1 ≤ k ∧ k ≤ 6) : callD n .cost [enc t, encDeed w k] = some (.int (costT t w k)) := by
  obtain ⟨m, rfl, hm⟩ := up (c := t.size + 4) hn
  refine k_cost ?_
  simp [c_cost, v_need_shape (n := m) (by omega) hb h6, v_need_deed t w k (n := m) (by omega) hz hk k6, v_cost_of t w k (n := m) (by omega)]
/-! all of a list hold -/
theorem compGo_true {fc : D → Option Bool} {fe : D → Option D} : ∀ ds : List D, (∀ d ∈ ds, fc d = some true) → (∀ d ∈ ds, fe d = some (.bool true)) → compGo fc fe ds = some (List.replicate ds.length (.bool true))
  | [], _, _ => rfl
  | x :: xs, h1, h2 => by
    have ih := compGo_true xs (fun y hy => h1 y (List.mem_cons_of_mem _ hy)) (fun y hy => h2 y (List.mem_cons_of_mem _ hy))
    rw [compGo, h1 x List.mem_cons_self, Option.bind_some, if_pos rfl, h2 x List.mem_cons_self, Option.bind_some, if_pos (show flatD (.bool true) = true from rfl), ih]
    rfl
theorem allB_true : ∀ n : Nat, allB (List.replicate n (.bool true)) = some true
  | 0 => rfl
  | n + 1 => by
    show (allB (List.replicate n (.bool true))).bind _ = _
    rw [allB_true n]
    rfl
@[simp] theorem o1_all {n : Nat} : op1 .all (.list (List.replicate n (.bool true))) = some (.bool true) := by
  show (allB _).bind _ = _
  rw [allB_true]
  rfl
theorem e_allComp {M : Sg} {l : Bool} {i : Nat} {src elt : C} {ρ : Rho} {ds : List D} (hs : ev M src ρ = some (if l then .list ds else .tuple ds)) (hl : ds.length ≤ 1000)
    (hc : ∀ d ∈ ds, ev M elt (setE ρ i d) = some (.bool true)) : ev M (.comp l i src .nil elt) ρ = some (.list (List.replicate ds.length (.bool true))) := by
  have e : compGo (fun d => if isNil .nil = true then some true else (ev M .nil (setE ρ i d)).bind asB) (fun d => ev M elt (setE ρ i d)) ds = some (List.replicate ds.length (.bool true)) := compGo_true ds (fun d _ => rfl) hc
  rw [e_comp, hs]
  cases l
  · simp only [Option.bind_some, asT_t, Bool.false_eq_true, if_false, hl, if_true, e]
  · simp only [Option.bind_some, asL_l, if_true, hl, e]
theorem intsD_map (o : List Int) : intsD (o.map PyData.int) = some o := by
  induction o with
  | nil => rfl
  | cons x r ih =>
    show (intsD (r.map PyData.int)).bind _ = _
    rw [ih]
    rfl
theorem isort6 {o : List Int} (h : o.Perm [1, 2, 3, 4, 5, 6]) : isort o = [1, 2, 3, 4, 5, 6] := (isort_eq h.symm (by decide)).symm
theorem v_is_rule (ru : Rule) (hr : RuleOk ru) {n : Nat} (hn : 3 ≤ n) : callD n .is_rule [encRule ru] = some (.bool true) := by
  obtain ⟨m, rfl, hm⟩ := up (c := 2) hn
  refine k_is_rule ?_
  cases ru with
  | ranks o =>
    have hr : o.Perm [1, 2, 3, 4, 5, 6] := hr
    have tl : Rule.tail (.ranks o) = [.tuple (o.map PyData.int)] := rfl
    have e1 := e_allComp (M := ⟨callD m, lvD m⟩) (l := false) (i := 1) (src := .b2 .ix (.var 0) (.cst (.int 1))) (elt := .call .is_number (.cons (.var 1) (.cons (.cst (.int 1)) (.cons (.glb .MOST) .nil)))) (ρ := [some (.tuple [.str (Rule.name (.ranks o)), .tuple (o.map PyData.int)]), none]) (ds := o.map PyData.int) (by simp) (by rw [List.length_map, len6 hr]; omega) (fun d hd => by
      obtain ⟨y, hy, rfl⟩ := List.mem_map.mp hd
      have hm6 : y ∈ ([1, 2, 3, 4, 5, 6] : List Int) := hr.mem_iff.mp hy
      have h6 : 1 ≤ y ∧ y ≤ 6 := by
        simp only [List.mem_cons, List.not_mem_nil, or_false] at hm6
        omega
      simp [v_is_number (a := y) (lo := 1) (hi := 6) (n := m) (by omega), h6.1, h6.2])
    have e2 : op1 .sorted (.tuple (o.map PyData.int)) = some (.list [.int 1, .int 2, .int 3, .int 4, .int 5, .int 6]) := by
      show (intsD (o.map PyData.int)).bind _ = _
      rw [intsD_map, Option.bind_some, if_pos (by rw [len6 hr]; omega), isort6 hr]
      rfl
    have e3 : ev ⟨callD m, lvD m⟩ (.rng (.cst (.int 1)) (.b2 .add (.glb .MOST) (.cst (.int 1)))) [some (.tuple [.str (Rule.name (.ranks o)), .tuple (o.map PyData.int)]), none] = some (.list [.int 1, .int 2, .int 3, .int 4, .int 5, .int 6]) := by
      rw [ev]
      simp
      rfl
    have e4 : op2 .eq (.list [.int 1, .int 2, .int 3, .int 4, .int 5, .int 6]) (.list [.int 1, .int 2, .int 3, .int 4, .int 5, .int 6]) = some (.bool true) := by simp [op2, eqOk, PyData.depth, PyData.depthAll, PyData.eqv, PyData.eqvAll]
    simp [c_is_rule, encRule, tl, Rule.tag, Rule.isFam, e1, e2, e3, e4]
  | _ => simp [c_is_rule, encRule, Rule.tag, Rule.isFam, Rule.tail]
theorem v_need_rule (ru : Rule) (hr : RuleOk ru) {n : Nat} (hn : 4 ≤ n) : callD n .need_rule [encRule ru] = some .none := by
  obtain ⟨m, rfl, hm⟩ := up (c := 3) hn
  refine k_need_rule ?_
  simp [c_need_rule, v_is_rule ru hr hm]
end TT
set_option Elab.async false
set_option linter.all false
set_option maxRecDepth 100000
set_option maxHeartbeats 4000000
/-! What the law's own defs give, 1: keys, heights, ways, leaves, turns, parts. -/
namespace TT
open PySem L2
theorem l_keys : ∀ (t : T) (n : Nat), t.size + 1 ≤ n → t.size ≤ 500 → callD n ._law_keys [enc t] = some (.list (t.keys.map PyData.int)) := by
  intro t
  induction t with
  | nil =>
    intro n hn _
    obtain ⟨m, rfl, hm⟩ := up (c := 0) hn
    refine k__law_keys ?_
    simp [c__law_keys, T.keys]
  | node l k r ihl ihr =>
    intro n hn hz
    simp only [T.size] at hn hz
    obtain ⟨m, rfl, hm⟩ := up (c := l.size + 1 + r.size) hn
    have z1 := keys_len l
    have z2 := keys_len r
    refine k__law_keys ?_
    simp [c__law_keys, ihl m (by omega) (by omega), ihr m (by omega) (by omega), T.keys]
    rw [if_pos (by omega)]
    simp
    rw [if_pos (by omega)]
    simp
theorem l_tall : ∀ (t : T) (n : Nat), t.size + 1 ≤ n → callD n ._law_tall [enc t] = some (.int t.ht) := by
  intro t
  induction t with
  | nil =>
    intro n hn
    obtain ⟨m, rfl, hm⟩ := up (c := 0) hn
    refine k__law_tall ?_
    simp [c__law_tall, T.ht]
  | node l k r ihl ihr =>
    intro n hn
    simp only [T.size] at hn
    obtain ⟨m, rfl, hm⟩ := up (c := l.size + 1 + r.size) hn
    refine k__law_tall ?_
    simp [c__law_tall, ihl m (by omega), ihr m (by omega), T.ht]
    by_cases h : l.ht < r.ht
    · rw [if_pos h]; omega
    · rw [if_neg h]; omega
theorem path_le : ∀ (t : T) (k : Int), (path t k).length ≤ t.size
  | .nil, _ => Nat.le_refl _
  | .node l x r, k => by
    have := path_le l k
    have := path_le r k
    unfold path
    simp only [T.size]
    split
    · simp; omega
    · split <;> simp only [List.length_cons] <;> omega
theorem l_path : ∀ (t : T) (k : Int) (n : Nat), t.size + 1 ≤ n → t.size ≤ 500 → callD n ._law_path [enc t, .int k] = some (.list ((path t k).map PyData.int)) := by
  intro t
  induction t with
  | nil =>
    intro k n hn _
    obtain ⟨m, rfl, hm⟩ := up (c := 0) hn
    refine k__law_path ?_
    simp [c__law_path, path]
  | node l x r ihl ihr =>
    intro k n hn hz
    simp only [T.size] at hn hz
    obtain ⟨m, rfl, hm⟩ := up (c := l.size + 1 + r.size) hn
    have z1 := path_le l k
    have z2 := path_le r k
    refine k__law_path ?_
    by_cases e : x = k
    · simp [c__law_path, path, e]
    · by_cases c : k < x
      · simp [c__law_path, path, e, c, ihl k m (by omega) (by omega)]
        rw [if_pos (by omega)]
        simp
      · simp [c__law_path, path, e, c, ihr k m (by omega) (by omega)]
        rw [if_pos (by omega)]
        simp
theorem l_plant : ∀ (f : Nat) (ks : List Int) (n : Nat), ks.length ≤ f → f ≤ 500 → f + 1 ≤ n → callD n ._law_plant [.list (ks.map PyData.int)] = some (enc (plant ks)) := by
  intro f
  induction f with
  | zero =>
    intro ks n hf _ hn
    have e : ks = [] := List.eq_nil_of_length_eq_zero (by omega)
    subst e
    obtain ⟨m, rfl, hm⟩ := up (c := 0) hn
    refine k__law_plant ?_
    simp [c__law_plant, plant_nil]
  | succ f ih =>
    intro ks n hf hf2 hn
    obtain ⟨m, rfl, hm⟩ := up (c := f + 1) hn
    refine k__law_plant ?_
    cases ks with
    | nil => simp [c__law_plant, plant_nil]
    | cons z zs =>
      simp only [List.length_cons] at hf
      have f1 : ((z :: zs).filter fun y => decide (y < z)) = zs.filter fun y => decide (y < z) := List.filter_cons_of_neg (by simp)
      have f2 : ((z :: zs).filter fun y => decide (z < y)) = zs.filter fun y => decide (z < y) := List.filter_cons_of_neg (by simp)
      have g1 : (zs.filter fun y => decide (y < z)).length ≤ zs.length := List.length_filter_le _ _
      have g2 : (zs.filter fun y => decide (z < y)).length ≤ zs.length := List.length_filter_le _ _
      have e2 := e_filter (M := ⟨callD m, lvD m⟩) (l := true) (i := 2) (src := .var 0) (cond := .b2 .lt (.var 2) (.var 1)) (ρ := [some (.list ((z :: zs).map PyData.int)), some (.int z), none]) (xs := z :: zs) (fun y => decide (y < z)) (by simp) rfl rfl (by simp only [List.length_cons]; omega) (fun x _ => by simp)
      have e3 := e_filter (M := ⟨callD m, lvD m⟩) (l := true) (i := 2) (src := .var 0) (cond := .b2 .gt (.var 2) (.var 1)) (ρ := [some (.list ((z :: zs).map PyData.int)), some (.int z), none]) (xs := z :: zs) (fun y => decide (z < y)) (by simp) rfl rfl (by simp only [List.length_cons]; omega) (fun x _ => by simp)
      rw [f1] at e2
      rw [f2] at e3
      have i1 := ih (zs.filter fun y => decide (y < z)) m (by omega) (by omega) (by omega)
      have i2 := ih (zs.filter fun y => decide (z < y)) m (by omega) (by omega) (by omega)
      rw [plant_cons]
      generalize (zs.filter fun y => decide (y < z)) = k1 at *
      generalize (zs.filter fun y => decide (z < y)) = k2 at *
      rw [List.map_cons] at e2 e3
      simp [c__law_plant, e2, e3, i1, i2]
def pre : T → List Int
  | .nil => []
  | .node l x r => x :: (pre l ++ pre r)
theorem pre_mem {y : Int} : ∀ t : T, y ∈ pre t ↔ y ∈ t.keys
  | .nil => by simp [pre, T.keys]
  | .node l x r => by
    have := pre_mem (y := y) l
    have := pre_mem (y := y) r
    simp only [pre, List.mem_cons, List.mem_append, mem_node, *]
    constructor
    · rintro (a | a | a)
      · exact .inr (.inl a)
      · exact .inl a
      · exact .inr (.inr a)
    · rintro (a | a | a)
      · exact .inr (.inl a)
      · exact .inl a
      · exact .inr (.inr a)
theorem pre_len : ∀ t : T, (pre t).length = t.size
  | .nil => rfl
  | .node l x r => by simp only [pre, List.length_cons, List.length_append, pre_len l, pre_len r, T.size]; omega
theorem l_order : ∀ (t : T) (n : Nat), t.size + 1 ≤ n → t.size ≤ 500 → callD n ._law_order [enc t] = some (.list ((pre t).map PyData.int)) := by
  intro t
  induction t with
  | nil =>
    intro n hn _
    obtain ⟨m, rfl, hm⟩ := up (c := 0) hn
    refine k__law_order ?_
    simp [c__law_order, pre]
  | node l k r ihl ihr =>
    intro n hn hz
    simp only [T.size] at hn hz
    obtain ⟨m, rfl, hm⟩ := up (c := l.size + 1 + r.size) hn
    have z1 := pre_len l
    have z2 := pre_len r
    refine k__law_order ?_
    simp [c__law_order, ihl m (by omega) (by omega), ihr m (by omega) (by omega), pre]
    rw [if_pos (by omega)]
    simp
    rw [if_pos (by omega)]
    simp
theorem filter_all {p : Int → Bool} {ks : List Int} (h : ∀ y ∈ ks, p y = true) : ks.filter p = ks := List.filter_eq_self.mpr h
theorem filter_no {p : Int → Bool} {ks : List Int} (h : ∀ y ∈ ks, p y = false) : ks.filter p = [] := List.filter_eq_nil_iff.mpr fun y hy => by rw [h y hy]; exact Bool.false_ne_true
theorem plant_pre : ∀ (t : T), Bst t → plant (pre t) = t
  | .nil, _ => rfl
  | .node l x r, ⟨h1, h2, h3, h4⟩ => by
    have a1 : ∀ y ∈ pre l, y < x := fun y hy => h3 y ((pre_mem l).mp hy)
    have a2 : ∀ y ∈ pre r, x < y := fun y hy => h4 y ((pre_mem r).mp hy)
    rw [pre, plant_cons, List.filter_append, List.filter_append, filter_all (ks := pre l) (fun y hy => decide_eq_true (a1 y hy)), filter_no (ks := pre r) (fun y hy => decide_eq_false (by have := a2 y hy; omega)),
      filter_no (ks := pre l) (fun y hy => decide_eq_false (by have := a1 y hy; omega)), filter_all (ks := pre r) (fun y hy => decide_eq_true (a2 y hy)), List.append_nil, List.nil_append, plant_pre l h1, plant_pre r h2]
theorem plant_leaf : ∀ (t : T) (k : Int), Bst t → ¬ k ∈ t.keys → plant (pre t ++ [k]) = withLeaf t k
  | .nil, k, _, _ => rfl
  | .node l x r, k, ⟨h1, h2, h3, h4⟩, hk => by
    rw [mem_node] at hk
    have a1 : ∀ y ∈ pre l, y < x := fun y hy => h3 y ((pre_mem l).mp hy)
    have a2 : ∀ y ∈ pre r, x < y := fun y hy => h4 y ((pre_mem r).mp hy)
    have kx : k ≠ x := fun e => hk (.inr (.inl e))
    rw [pre, List.cons_append, plant_cons, List.filter_append, List.filter_append, List.filter_append, List.filter_append, filter_all (ks := pre l) (fun y hy => decide_eq_true (a1 y hy)), filter_no (ks := pre r) (fun y hy => decide_eq_false (by have := a2 y hy; omega)),
      filter_no (ks := pre l) (fun y hy => decide_eq_false (by have := a1 y hy; omega)), filter_all (ks := pre r) (fun y hy => decide_eq_true (a2 y hy)), List.append_nil, List.nil_append, withLeaf]
    by_cases c : k < x
    · rw [if_pos c, List.filter_cons_of_pos (by simpa using c), List.filter_cons_of_neg (by simp; omega), List.filter_nil, List.filter_nil, List.append_nil, plant_leaf l k h1 (fun h => hk (.inl h)), plant_pre r h2]
    · rw [if_neg c, List.filter_cons_of_neg (by simpa using c), List.filter_cons_of_pos (by simp; omega), List.filter_nil, List.filter_nil, List.append_nil, plant_leaf r k h2 (fun h => hk (.inr (.inr h))), plant_pre l h1]
theorem l_leaf (t : T) (k : Int) {n : Nat} (hn : t.size + 3 ≤ n) (hz : t.size ≤ 400) (hb : Bst t) (hk : ¬ k ∈ t.keys) : callD n ._law_leaf [enc t, .int k] = some (enc (withLeaf t k)) := by
  obtain ⟨m, rfl, hm⟩ := up (c := t.size + 2) hn
  have pl := pre_len t
  have g := l_plant (t.size + 1) (pre t ++ [k]) m (by rw [List.length_append, pl]; exact Nat.le_refl _) (by omega) (by omega)
  rw [plant_leaf t k hb hk, List.map_append] at g
  simp only [List.map_cons, List.map_nil] at g
  refine k__law_leaf ?_
  simp [c__law_leaf, l_order t m (by omega) (by omega)]
  rw [if_pos (by omega)]
  simp [g]
theorem l_turn : ∀ (t : T) (k : Int) (n : Nat), t.size + 1 ≤ n → Bst t → k ∈ t.keys → t.root ≠ k → callD n ._law_turn [enc t, .int k] = some (enc (turned t k)) := by
  intro t
  induction t with
  | nil => intro k n _ _ hk; exact absurd hk not_mem_nil
  | node l x r ihl ihr =>
    intro k n hn hb hk hr
    simp only [T.size] at hn
    have hxk : x ≠ k := hr
    obtain ⟨m, rfl, hm⟩ := up (c := l.size + 1 + r.size) hn
    refine k__law_turn ?_
    by_cases c : k < x
    · have hl := in_left hb hk c
      cases l with
      | nil => exact absurd hl not_mem_nil
      | node a j b =>
        by_cases e : j = k
        · simp [c__law_turn, turned, c, rootIs, e, leftUp]
        · have := ihl k m (by omega) hb.1 hl e
          rw [enc_node] at this
          cases r with
          | nil => simp [c__law_turn, turned, c, rootIs, e, this]
          | node a2 j2 b2 =>
            have hj : ¬ j2 = k := fun e2 => by
              have := hb.2.2.2 j2 (mem_node.mpr (.inr (.inl rfl)))
              omega
            simp [c__law_turn, turned, c, rootIs, e, this, hj]
    · have hl := in_right hb hk (by omega)
      cases r with
      | nil => exact absurd hl not_mem_nil
      | node a j b =>
        have this0 := fun e => ihr k m (by omega) hb.2.1 hl e
        cases l with
        | nil =>
          by_cases e : j = k
          · simp [c__law_turn, turned, c, rootIs, e, rightUp]
          · have := this0 e
            rw [enc_node] at this
            simp [c__law_turn, turned, c, rootIs, e, this]
        | node a2 j2 b2 =>
          have hj : ¬ j2 = k := fun e2 => by
            have := hb.2.2.1 j2 (mem_node.mpr (.inr (.inl rfl)))
            omega
          by_cases e : j = k
          · simp [c__law_turn, turned, c, rootIs, e, hj, rightUp]
          · have := this0 e
            rw [enc_node] at this
            simp [c__law_turn, turned, c, rootIs, e, hj, this]
def part : T → Int → T
  | .nil, _ => .nil
  | .node l x r, k => if x = k then .node l x r else if k < x then part l k else part r k
theorem l_part_go : ∀ (t : T) (f : Nat) (k : Int) (M : Sg), t.size + 1 ≤ f → Bst t → k ∈ t.keys →
    whileGo (fun ρ => (ev M (.b2 .ne (.b2 .ix (.var 0) (.cst (.int 1))) (.var 1)) ρ).bind asB) (fun ρ => evS M (.set 0 (.ite (.b2 .lt (.var 1) (.b2 .ix (.var 0) (.cst (.int 1)))) (.b2 .ix (.var 0) (.cst (.int 0))) (.b2 .ix (.var 0) (.cst (.int 2)))) .nil) ρ) f [some (enc t), some (.int k)] = some (.nx [some (enc (part t k)), some (.int k)]) := by
  intro t
  induction t with
  | nil => intro f k M _ _ hk; exact absurd hk not_mem_nil
  | node l x r ihl ihr =>
    intro f k M hf hb hk
    simp only [T.size] at hf
    obtain ⟨f, rfl, hf'⟩ := up (c := l.size + 1 + r.size) hf
    by_cases e : x = k
    · rw [whileGo, part, if_pos e]
      simp [e]
    · by_cases c : k < x
      · have ih := ihl f k M (by omega) hb.1 (in_left hb hk c)
        rw [whileGo, part, if_neg e, if_pos c]
        simp [e, c]
        simpa using ih
      · have ih := ihr f k M (by omega) hb.2.1 (in_right hb hk (by omega))
        rw [whileGo, part, if_neg e, if_neg c]
        simp [e, c]
        simpa using ih
theorem l_part (t : T) (k : Int) {n : Nat} (hn : 1 ≤ n) (hz : t.size ≤ 60) (hb : Bst t) (hk : k ∈ t.keys) : callD n ._law_part [enc t, .int k] = some (enc (part t k)) := by
  obtain ⟨m, rfl, hm⟩ := up (c := 0) hn
  refine k__law_part ?_
  rw [c__law_part, s_whl, l_part_go t 64 k ⟨callD m, lvD m⟩ (by omega) hb hk]
  simp
def putAt : T → Int → T → T
  | .nil, _, _ => .nil
  | .node l x r, k, p => if x = k then p else if k < x then .node (putAt l k p) x r else .node l x (putAt r k p)
theorem l_put : ∀ (t : T) (k : Int) (p : D) (q : T) (n : Nat), p = enc q → t.size + 1 ≤ n → Bst t → k ∈ t.keys → callD n ._law_put [enc t, .int k, p] = some (enc (putAt t k q)) := by
  intro t
  induction t with
  | nil => intro k p q n _ _ _ hk; exact absurd hk not_mem_nil
  | node l x r ihl ihr =>
    intro k p q n hp hn hb hk
    simp only [T.size] at hn
    obtain ⟨m, rfl, hm⟩ := up (c := l.size + 1 + r.size) hn
    refine k__law_put ?_
    by_cases e : x = k
    · simp [c__law_put, putAt, e, hp]
    · by_cases c : k < x
      · simp [c__law_put, putAt, e, c, ihl k p q m hp (by omega) hb.1 (in_left hb hk c)]
      · simp [c__law_put, putAt, e, c, ihr k p q m hp (by omega) hb.2.1 (in_right hb hk (by omega))]
end TT
set_option Elab.async false
set_option linter.all false
set_option maxRecDepth 100000
set_option maxHeartbeats 4000000
/-! What the law's own defs give, 2: weights, halves, splaying. -/
namespace TT
open PySem L2
theorem l_heavy (h : Bool) (a b : T) {n : Nat} (hn : a.size + b.size + 3 ≤ n) (hz : a.size + b.size ≤ 300) : callD n ._law_heavy [.str (wd h), enc a, enc b] = some (.bool (greaterB h a b)) := by
  obtain ⟨m, rfl, hm⟩ := up (c := a.size + b.size + 2) hn
  refine k__law_heavy ?_
  have z1 := keys_len a
  have z2 := keys_len b
  cases h with
  | true =>
    simp [c__law_heavy, l_tall a m (by omega), l_tall b m (by omega), greaterB]
    omega
  | false =>
    simp [c__law_heavy, l_keys a m (by omega) (by omega), l_keys b m (by omega) (by omega), greaterB, z1, z2]
    omega
theorem l_inner (h : Bool) (a b : T) {n : Nat} (hn : a.size + b.size + 3 ≤ n) (hz : a.size + b.size ≤ 300) : callD n ._law_inner [.str (wd h), enc a, enc b] = some (.bool (innerB h a b)) := by
  obtain ⟨m, rfl, hm⟩ := up (c := a.size + b.size + 2) hn
  refine k__law_inner ?_
  have z1 := keys_len a
  have z2 := keys_len b
  cases h with
  | true =>
    simp [c__law_inner, l_tall a m (by omega), l_tall b m (by omega), innerB]
  | false =>
    simp [c__law_inner, l_keys a m (by omega) (by omega), l_keys b m (by omega) (by omega), innerB, z1, z2]
    omega
theorem l_even : ∀ (f : Nat) (ks : List Int) (n : Nat), ks.length ≤ f → f + 1 ≤ n → callD n ._law_even [.list (ks.map PyData.int)] = some (enc (builtN f ks)) := by
  intro f
  induction f with
  | zero =>
    intro ks n hf hn
    have e : ks = [] := List.eq_nil_of_length_eq_zero (by omega)
    subst e
    obtain ⟨m, rfl, hm⟩ := up (c := 0) hn
    refine k__law_even ?_
    simp [c__law_even, builtN]
  | succ f ih =>
    intro ks n hf hn
    obtain ⟨m, rfl, hm⟩ := up (c := f + 1) hn
    refine k__law_even ?_
    cases he : ks.isEmpty with
    | true =>
      rw [List.isEmpty_iff] at he
      subst he
      simp [c__law_even, builtN]
    | false =>
      have hl : 0 < ks.length := by
        cases ks with
        | nil => exact nomatch he
        | cons _ _ => exact Nat.succ_pos _
      have h1 := cut_to ks (ks.length / 2) (by omega)
      have h2 := cut_from ks (ks.length / 2 + 1) (by omega)
      have h3 := at_ints ks (ks.length / 2) (by omega)
      have h4 := ih (ks.take (ks.length / 2)) m (by rw [List.length_take]; omega) hm
      have h5 := ih (ks.drop (ks.length / 2 + 1)) m (by rw [List.length_drop]; omega) hm
      rw [Int.natCast_add] at h2
      simp only [← half] at h1 h2 h3
      simp only [Int.natCast_one] at h2
      rw [List.map_take] at h4 h1
      rw [List.map_drop] at h5 h2
      simp [c__law_even, he, h1, h2, h3, h4, h5, builtN]
theorem l_is_even (l : T) (k : Int) (r : T) {n : Nat} (hn : l.size + r.size + 3 ≤ n) (hz : l.size + r.size ≤ 300) : callD n ._law_is_even [.tuple [enc l, .int k, enc r]] = some (.bool (evenB (.node l k r))) := by
  obtain ⟨m, rfl, hm⟩ := up (c := l.size + r.size + 2) hn
  have z1 := keys_len l
  have z2 := keys_len r
  have z3 := keys_len (.node l k r)
  have g := l_keys (.node l k r) m (by simp only [T.size]; omega) (by simp only [T.size]; omega)
  rw [enc_node] at g
  refine k__law_is_even ?_
  have ev : evenB (.node l k r) = decide (3 * max l.size r.size ≤ 2 * (l.size + 1 + r.size)) := rfl
  have ez : (T.node l k r).size = l.size + 1 + r.size := rfl
  rw [ev]
  rw [ez] at z3
  simp [c__law_is_even, l_keys l m (by omega) (by omega), l_keys r m (by omega) (by omega), g, z1, z2, z3]
  by_cases h : l.size < r.size
  · rw [if_pos h, Nat.max_eq_right (Nat.le_of_lt h)]; omega
  · rw [if_neg h, Nat.max_eq_left (Nat.le_of_not_lt h)]; omega
theorem l_again : ∀ (t : T) (n : Nat), t.size + 4 ≤ n → t.size ≤ 300 → callD n ._law_again [enc t] = some (enc (rebuilt t)) := by
  intro t
  induction t with
  | nil =>
    intro n hn _
    obtain ⟨m, rfl, hm⟩ := up (c := 3) hn
    refine k__law_again ?_
    simp [c__law_again, rebuilt]
  | node l k r ihl ihr =>
    intro n hn hz
    simp only [T.size] at hn hz
    obtain ⟨m, rfl, hm⟩ := up (c := l.size + r.size + 4) (n := n) (by clear ihl ihr; omega)
    have g := l_is_even l k r (n := m) (by omega) (by omega)
    refine k__law_again ?_
    cases e : evenB (.node l k r) with
    | true =>
      rw [e] at g
      simp [c__law_again, rebuilt, g, e, ihl m (by omega) (by omega), ihr m (by omega) (by omega)]
    | false =>
      rw [e] at g
      have g2 := l_keys (.node l k r) m (by simp only [T.size]; omega) (by simp only [T.size]; omega)
      rw [enc_node] at g2
      have g3 := l_even (T.node l k r).keys.length (T.node l k r).keys m (Nat.le_refl _) (by rw [keys_len]; simp only [T.size]; omega)
      rw [rebuilt, e]
      generalize (T.node l k r).keys = ks at *
      simp [c__law_again, g, g2, g3]
theorem l_price (t : T) (w : W) (k : Int) {n : Nat} (hn : t.size + 2 ≤ n) (hz : t.size ≤ 400) (hb : Bst t) (hk : Poss t w k) : callD n ._law_price [enc t, encDeed w k] = some (.int (costT t w k)) := by
  obtain ⟨m, rfl, hm⟩ := up (c := t.size + 1) hn
  refine k__law_price ?_
  have g := l_path t k m hm (by omega)
  cases w with
  | inn => simp [c__law_price, encDeed, g, costT, path_len' t k hb hk]
  | ask => simp [c__law_price, encDeed, g, costT, path_len t k hb hk]
  | out => simp [c__law_price, encDeed, g, costT, path_len t k hb hk]
theorem at_back (ks : List Int) (j : Nat) (h1 : 1 ≤ j) (h2 : j ≤ ks.length) : atI (ks.map PyData.int) (-(j : Int)) = some (.int (ks.getD (ks.length - j) 0)) := by
  have h3 : ks.length - j < ks.length := by omega
  have e : (ks.map PyData.int)[ks.length - j]? = some (.int (ks.getD (ks.length - j) 0)) := by
    rw [List.getElem?_map, List.getElem?_eq_getElem h3, List.getD_eq_getElem?_getD, List.getElem?_eq_getElem h3]
    rfl
  have e2 : ixN ks.length (-(j : Int)) = some (ks.length - j) := by
    unfold ixN
    split
    · omega
    · rw [if_pos (by omega)]
      congr 1
      omega
  unfold atI
  rw [List.length_map, e2]
  exact e
theorem l_splay_go : ∀ (f : Nat) (t : T) (k : Int) (x3 x4 : Option D) (n : Nat), t.size + 1 ≤ n → t.size ≤ 400 → Bst t → k ∈ t.keys → way t k + 1 ≤ f →
    ∃ y3 y4, whileGo (fun ρ => (ev ⟨callD n, lvD n⟩ (.b2 .gt (.b1 .len (.var 2)) (.cst (.int 2))) ρ).bind asB)
      (fun ρ => evS ⟨callD n, lvD n⟩ (.par 3 4 (.cons (.b2 .ix (.var 2) (.neg (.cst (.int 3)))) (.cons (.b2 .ix (.var 2) (.neg (.cst (.int 2)))) .nil)) (.set 0 (.call ._law_turn (.cons (.var 0) (.cons (.ite (.b2 .eq (.b2 .lt (.var 4) (.var 3)) (.b2 .lt (.var 1) (.var 4))) (.var 4) (.var 1)) .nil))) (.set 0 (.call ._law_turn (.cons (.var 0) (.cons (.var 1) .nil))) (.set 2 (.call ._law_path (.cons (.var 0) (.cons (.var 1) .nil))) .nil)))) ρ) f [some (enc t), some (.int k), some (.list ((path t k).map PyData.int)), x3, x4]
      = some (.nx [some (enc (splayN (f - 1) t k)), some (.int k), some (.list ((path (splayN (f - 1) t k) k).map PyData.int)), y3, y4]) := by
  intro f
  induction f with
  | zero => intro t k _ _ n _ _ _ _ h; omega
  | succ f ih =>
    intro t k x3 x4 n hn hz hb hk hf
    have pl := path_len t k hb hk
    by_cases h2 : 2 ≤ way t k
    · obtain ⟨h1, h3, h4, h5⟩ := first_ok hb hk h2
      have e1 := l_turn t (firstUp t k) n hn hb h1 h3
      have e2 := l_turn (turned t (firstUp t k)) k n (by rw [size_congr (turned_keys _ _)]; exact hn) (hb.congr (turned_keys _ _)) (by rw [turned_keys]; exact hk) h4
      have b3 : atI ((path t k).map PyData.int) (-3) = some (.int (gra t k)) := at_back (path t k) 3 (by omega) (by omega)
      have b2 : atI ((path t k).map PyData.int) (-2) = some (.int (par t k)) := at_back (path t k) 2 (by omega) (by omega)
      have sk := stepUp_keys t k
      have e3 := l_path (stepUp t k) k n (by rw [size_congr sk]; exact hn) (by rw [size_congr sk]; omega)
      obtain ⟨y3, y4, h⟩ := ih (stepUp t k) k (some (.int (gra t k))) (some (.int (par t k))) n (by rw [size_congr sk]; exact hn) (by rw [size_congr sk]; exact hz) (hb.congr sk) (by rw [sk]; exact hk) (by have := stepUp_way hb hk h2; omega)
      refine ⟨y3, y4, ?_⟩
      have h6 : splayN f t k = splayN (f - 1) (stepUp t k) k := by
        cases f with
        | zero => omega
        | succ f =>
          rw [splayN, if_pos (by omega)]
          rfl
      have h7 : (2 : Int) < (path t k).length := by omega
      have hf1 : (if (par t k < gra t k ↔ k < par t k) then some (PyData.int (par t k)) else some (PyData.int k)) = some (PyData.int (firstUp t k)) := by
        unfold firstUp
        simp only [beq_iff_eq, decide_eq_decide, Iff.comm]
        split <;> rfl
      rw [whileGo, show f + 1 - 1 = f from rfl, h6]
      rw [← stepUp_eq] at e2
      simp [h7, b3, b2, hf1, e1, e2, e3]
      simpa using h
    · have h7 : ¬ (2 : Int) < (path t k).length := by omega
      refine ⟨x3, x4, ?_⟩
      have h6 : splayN f t k = t := by
        cases f with
        | zero => rfl
        | succ f => rw [splayN, if_neg (by omega)]
      rw [whileGo, show f + 1 - 1 = f from rfl, h6]
      simp [h7]
theorem splayN_low : ∀ (f : Nat) (t : T) (k : Int), Bst t → k ∈ t.keys → way t k ≤ f → way (splayN f t k) k ≤ 1
  | 0, t, k, _, _, h => by unfold splayN; omega
  | f + 1, t, k, hb, hk, h => by
    unfold splayN
    split
    · have sk := stepUp_keys t k
      have := stepUp_way hb hk (by omega)
      exact splayN_low f (stepUp t k) k (hb.congr sk) (by rw [sk]; exact hk) (by omega)
    · omega
theorem l_splay {t : T} {k : Int} {n : Nat} (hn : t.size + 3 ≤ n) (hz : t.size ≤ 60) (hb : Bst t) (hk : k ∈ t.keys) : callD n ._law_splay [enc t, .int k] = some (enc (splayed t k)) := by
  obtain ⟨m, rfl, hm⟩ := up (c := t.size + 2) hn
  have wl := way_le t k
  obtain ⟨y3, y4, h⟩ := l_splay_go 64 t k none none m (by omega) (by omega) hb hk (by omega)
  have sk := splayN_keys 63 t k
  have sl := splayN_low 63 t k hb hk (by omega)
  have ub : Bst (splayN 63 t k) := hb.congr sk
  have uk : k ∈ (splayN 63 t k).keys := by rw [sk]; exact hk
  have uz : (splayN 63 t k).size = t.size := size_congr sk
  have pl := path_len _ k ub uk
  refine k__law_splay ?_
  rw [c__law_splay, s_set]
  simp [l_path t k m (by omega) (by omega)]
  simp at h
  rw [h]
  simp
  unfold splayed onceUp
  generalize splayN 63 t k = u at *
  rw [rootIs_iff (not_nil_of uk)]
  by_cases e : u.root = k
  · have w0 : way u k = 0 := by
      cases u with
      | nil => rfl
      | node l x r => exact if_pos e
    have l1 : (path u k).length = 1 := by omega
    simp [e, l1]
  · have := way_of_root uk e
    have l1 : ¬ ((path u k).length : Int) = 1 := by omega
    have l2 : ¬ (path u k).length = 1 := by omega
    simp [e, l1, l2, l_turn u k m (by omega) ub uk e]
end TT
set_option Elab.async false
set_option linter.all false
set_option maxRecDepth 100000
set_option maxHeartbeats 4000000
/-! What the law's own defs give, 3: parts and ways. -/
namespace TT
open PySem L2
def modAt (f : T → T) : T → Int → T
  | .nil, _ => .nil
  | .node l x r, k => if x = k then f (.node l x r) else if k < x then .node (modAt f l k) x r else .node l x (modAt f r k)
theorem modAt_keys {f : T → T} (hf : ∀ t, (f t).keys = t.keys) : ∀ (t : T) (k : Int), (modAt f t k).keys = t.keys
  | .nil, _ => rfl
  | .node l x r, k => by
    unfold modAt
    split
    · exact hf _
    · split
      · exact keys_node (modAt_keys hf l k) rfl
      · exact keys_node rfl (modAt_keys hf r k)
theorem part_mem : ∀ (t : T) (k y : Int), Bst t → k ∈ t.keys → y ∈ (part t k).keys → y ∈ t.keys
  | .nil, _, _, _, hk, _ => absurd hk not_mem_nil
  | .node l x r, k, y, hb, hk, h => by
    unfold part at h
    split at h
    · exact h
    · split at h
      · rename_i c0 c
        exact mem_node.mpr (.inl (part_mem l k y hb.1 (in_left hb hk c) h))
      · rename_i c0 c
        exact mem_node.mpr (.inr (.inr (part_mem r k y hb.2.1 (in_right hb hk (by omega)) h)))
theorem part_bst : ∀ (t : T) (k : Int), Bst t → k ∈ t.keys → Bst (part t k)
  | .nil, _, _, hk => absurd hk not_mem_nil
  | .node l x r, k, hb, hk => by
    unfold part
    split
    · exact hb
    · split
      · rename_i c0 c
        exact part_bst l k hb.1 (in_left hb hk c)
      · rename_i c0 c
        exact part_bst r k hb.2.1 (in_right hb hk (by omega))
theorem part_size : ∀ (t : T) (k : Int), (part t k).size ≤ t.size
  | .nil, _ => Nat.le_refl _
  | .node l x r, k => by
    have h1 := part_size l k
    have h2 := part_size r k
    unfold part
    split
    · exact Nat.le_refl _
    · split <;> simp only [T.size] <;> omega
theorem part_node : ∀ (t : T) (k : Int), Bst t → k ∈ t.keys → ∃ l r, part t k = .node l k r
  | .nil, _, _, hk => absurd hk not_mem_nil
  | .node l x r, k, hb, hk => by
    unfold part
    split
    · rename_i c
      exact ⟨l, r, by rw [c]⟩
    · split
      · rename_i c0 c
        exact part_node l k hb.1 (in_left hb hk c)
      · rename_i c0 c
        exact part_node r k hb.2.1 (in_right hb hk (by omega))
theorem root_mem {t : T} {k : Int} (h : k ∈ t.keys) : t.root ∈ t.keys := by
  cases t with
  | nil => exact absurd h not_mem_nil
  | node l x r => exact mem_node.mpr (.inr (.inl rfl))
theorem part_root : ∀ (t : T) (k y : Int), Bst t → k ∈ t.keys → y ∈ (part t k).keys → t.root = y → y = k
  | .nil, _, _, _, hk, _, _ => absurd hk not_mem_nil
  | .node l x r, k, y, hb, hk, h, e => by
    have e : x = y := e
    unfold part at h
    split at h
    · rename_i c; rw [← e]; exact c
    · split at h
      · rename_i c0 c
        have := hb.2.2.1 y (part_mem l k y hb.1 (in_left hb hk c) h)
        omega
      · rename_i c0 c
        have := hb.2.2.2 y (part_mem r k y hb.2.1 (in_right hb hk (by omega)) h)
        omega
theorem turned_at : ∀ (t : T) (k u : Int), Bst t → k ∈ t.keys → u ∈ (part t k).keys → u ≠ k → turned t u = modAt (fun p => turned p u) t k
  | .nil, _, _, _, hk, _, _ => absurd hk not_mem_nil
  | .node l x r, k, u, hb, hk, hu, ne => by
    unfold part at hu
    unfold modAt
    split at hu
    · rename_i c
      rw [if_pos c]
    · rename_i c0
      rw [if_neg c0]
      split at hu
      · rename_i c
        have hl := in_left hb hk c
        have hul := part_mem l k u hb.1 hl hu
        have := hb.2.2.1 u hul
        rw [if_pos c, turned, if_pos this, rootIs_iff (not_nil_of hl), if_neg (by
          intro h
          exact ne (part_root l k u hb.1 hl hu (of_decide_eq_true h))), turned_at l k u hb.1 hl hu ne]
      · rename_i c
        have hr := in_right hb hk (by omega)
        have hur := part_mem r k u hb.2.1 hr hu
        have := hb.2.2.2 u hur
        rw [if_neg c, turned, if_neg (by omega), rootIs_iff (not_nil_of hr), if_neg (by
          intro h
          exact ne (part_root r k u hb.2.1 hr hu (of_decide_eq_true h))), turned_at r k u hb.2.1 hr hu ne]
theorem modAt_same {f : T → T} : ∀ (t : T) (k : Int), f (part t k) = part t k → modAt f t k = t
  | .nil, _, _ => rfl
  | .node l x r, k, h => by
    unfold part at h
    unfold modAt
    split at h
    · rename_i c
      rw [if_pos c]; exact h
    · rename_i c0
      rw [if_neg c0]
      split at h
      · rename_i c
        rw [if_pos c, modAt_same l k h]
      · rename_i c
        rw [if_neg c, modAt_same r k h]
theorem modAt_put {f : T → T} : ∀ (t : T) (k : Int), modAt f t k = putAt t k (f (part t k))
  | .nil, _ => rfl
  | .node l x r, k => by
    unfold modAt putAt part
    split
    · rfl
    · split
      · rw [modAt_put l k]
      · rw [modAt_put r k]
theorem part_put (a b : T) : ∀ (t : T) (k : Int), Bst t → k ∈ t.keys → part (putAt t k (.node a k b)) k = .node a k b
  | .nil, _, _, hk => absurd hk not_mem_nil
  | .node l x r, k, hb, hk => by
    unfold putAt
    split
    · rw [part, if_pos rfl]
    · rename_i c0
      split
      · rename_i c
        rw [part, if_neg c0, if_pos c]
        exact part_put a b l k hb.1 (in_left hb hk c)
      · rename_i c
        rw [part, if_neg c0, if_neg c]
        exact part_put a b r k hb.2.1 (in_right hb hk (by omega))
theorem put_put (a b q : T) : ∀ (t : T) (k : Int), putAt (putAt t k (.node a k b)) k q = putAt t k q
  | .nil, _ => rfl
  | .node l x r, k => by
    by_cases c0 : x = k
    · simp only [putAt, c0, if_true]
    · by_cases c : k < x
      · simp only [putAt, c0, c, if_true, if_false, put_put a b q l k]
      · simp only [putAt, c0, c, if_false, put_put a b q r k]
theorem turn_put {t : T} {k u : Int} {l r : T} (hb : Bst t) (hk : k ∈ t.keys) (hp : part t k = .node l k r) (hu : u ∈ (T.node l k r).keys) (ne : u ≠ k) : turned t u = putAt t k (turned (.node l k r) u) := by
  rw [turned_at t k u hb hk (by rw [hp]; exact hu) ne, modAt_put, hp]
theorem turn_root {t : T} {k u : Int} (hb : Bst t) (hk : k ∈ t.keys) {l r : T} (hp : part t k = .node l k r) (hu : u ∈ (T.node l k r).keys) (ne : u ≠ k) : t.root ≠ u :=
  fun e => ne (part_root t k u hb hk (by rw [hp]; exact hu) e)
theorem l_fixed (h : Bool) (t : T) (k : Int) {n : Nat} (hn : t.size + 6 ≤ n) (hz : t.size ≤ 60) (hb : Bst t) (hk : k ∈ t.keys) : callD n ._law_fixed [.str (wd h), enc t, .int k] = some (enc (modAt (setRight h) t k)) := by
  obtain ⟨m, rfl, hm⟩ := up (c := t.size + 5) hn
  obtain ⟨l, r, hp⟩ := part_node t k hb hk
  have ps := part_size t k
  have pb := part_bst t k hb hk
  have g0 := l_part t k (n := m) (by omega) hz hb hk
  have tr := fun u hu ne => l_turn t u m (by omega) hb (part_mem t k u hb hk (by rw [hp]; exact hu)) (turn_root hb hk hp hu ne)
  have tp := fun u hu ne => turn_put (t := t) (k := k) (u := u) hb hk hp hu ne
  rw [modAt_put]
  rw [hp] at g0 ps pb ⊢
  rw [enc_node] at g0
  simp only [T.size] at ps
  have g1 := l_heavy h l r (n := m) (by omega) (by omega)
  have g2 := l_heavy h r l (n := m) (by omega) (by omega)
  have two : ∀ (u : Int) (a b : T), u ∈ (T.node l k r).keys → u ≠ k → turned (.node l k r) u = .node a k b → (T.node a k b).keys = (T.node l k r).keys →
      callD m ._law_turn [enc (turned t u), .int u] = some (enc (putAt t k (turned (.node a k b) u))) := by
    intro u a b hu ne e ek
    have e1 := tp u hu ne
    have b1 : Bst (turned t u) := hb.congr (turned_keys _ _)
    have k1 : k ∈ (turned t u).keys := by rw [turned_keys]; exact hk
    have p1 : part (turned t u) k = .node a k b := by rw [e1, e, part_put a b t k hb hk]
    have hu1 : u ∈ (T.node a k b).keys := by rw [ek]; exact hu
    rw [l_turn (turned t u) u m (by rw [size_congr (turned_keys _ _)]; omega) b1 (by rw [turned_keys]; exact part_mem t k u hb hk (by rw [hp]; exact hu)) (turn_root b1 k1 p1 hu1 ne), turn_put b1 k1 p1 hu1 ne, e1, e, put_put]
  refine k__law_fixed ?_
  rw [setRight]
  cases e1 : greaterB h l r with
  | true =>
    obtain ⟨a, j, b, rfl⟩ := greater_nn e1
    simp only [T.size] at ps
    have g3 := l_inner h b a (n := m) (by omega) (by omega)
    rw [e1, enc_node] at g1
    have jk : j < k := pb.2.2.1 j (mem_node.mpr (.inr (.inl rfl)))
    cases e2 : innerB h b a with
    | true =>
      obtain ⟨c, i, d, rfl⟩ := inner_nn e2
      rw [e2, enc_node] at g3
      rw [enc_node] at g1 g0
      have il : i ∈ (T.node a j (.node c i d)).keys := mem_node.mpr (.inr (.inr (mem_node.mpr (.inr (.inl rfl)))))
      have ik : i < k := pb.2.2.1 i il
      have ij : j < i := pb.1.2.2.2 i (mem_node.mpr (.inr (.inl rfl)))
      have nij : ¬ i < j := by omega
      have nji : ¬ j = i := by omega
      have hu : i ∈ (T.node (.node a j (.node c i d)) k r).keys := mem_node.mpr (.inl il)
      have q1 := tr i hu (by omega)
      have q2 := two i (.node (.node a j c) i d) r hu (by omega) (by simp [turned, ik, nij, nji, rootIs, rightUp]) (keys_node (rightUp_keys (.node a j (.node c i d))) rfl)
      have q3 : turned (.node (.node (.node a j c) i d) k r) i = .node (.node a j c) i (.node d k r) := by simp [turned, ik, rootIs, leftUp]
      rw [q3] at q2
      simp [T.left, T.right, leftUp, rightUp, e2]
      simp [c__law_fixed, g0, g1, g3, q1, q2]
    | false =>
      rw [e2] at g3
      have hu : j ∈ (T.node (.node a j b) k r).keys := mem_node.mpr (.inl (mem_node.mpr (.inr (.inl rfl))))
      have q1 := tr j hu (by omega)
      rw [tp j hu (by omega)] at q1
      have q3 : turned (.node (.node a j b) k r) j = .node a j (.node b k r) := by simp [turned, jk, rootIs, leftUp]
      rw [q3] at q1
      rw [enc_node] at g0
      simp [T.left, T.right, leftUp, e2]
      simp [c__law_fixed, g0, g1, g3, q1]
  | false =>
    rw [e1] at g1
    cases e3 : greaterB h r l with
    | true =>
      obtain ⟨a, j, b, rfl⟩ := greater_nn e3
      simp only [T.size] at ps
      have g3 := l_inner h a b (n := m) (by omega) (by omega)
      rw [e3] at g2
      rw [enc_node] at g1 g2 g0
      have jk : k < j := pb.2.2.2 j (mem_node.mpr (.inr (.inl rfl)))
      have njk : ¬ j < k := by omega
      cases e2 : innerB h a b with
      | true =>
        obtain ⟨c, i, d, rfl⟩ := inner_nn e2
        rw [e2, enc_node] at g3
        rw [enc_node] at g1 g2 g0
        have il : i ∈ (T.node (.node c i d) j b).keys := mem_node.mpr (.inl (mem_node.mpr (.inr (.inl rfl))))
        have ik : k < i := pb.2.2.2 i il
        have ij : i < j := pb.2.1.2.2.1 i (mem_node.mpr (.inr (.inl rfl)))
        have nik : ¬ i < k := by omega
        have nji : ¬ j = i := by omega
        have hu : i ∈ (T.node l k (.node (.node c i d) j b)).keys := mem_node.mpr (.inr (.inr il))
        have q1 := tr i hu (by omega)
        have q2 := two i l (.node c i (.node d j b)) hu (by omega) (by simp [turned, nik, ij, nji, rootIs, leftUp]) (keys_node rfl (leftUp_keys (.node (.node c i d) j b)))
        have q3 : turned (.node l k (.node c i (.node d j b))) i = .node (.node l k c) i (.node d j b) := by simp [turned, nik, rootIs, rightUp]
        rw [q3] at q2
        simp [T.left, T.right, leftUp, rightUp, e2]
        simp [c__law_fixed, g0, g1, g2, g3, q1, q2]
      | false =>
        rw [e2] at g3
        have hu : j ∈ (T.node l k (.node a j b)).keys := mem_node.mpr (.inr (.inr (mem_node.mpr (.inr (.inl rfl)))))
        have q1 := tr j hu (by omega)
        rw [tp j hu (by omega)] at q1
        have q3 : turned (.node l k (.node a j b)) j = .node (.node l k a) j b := by simp [turned, njk, rootIs, rightUp]
        rw [q3] at q1
        simp [T.left, T.right, rightUp, e2]
        simp [c__law_fixed, g0, g1, g2, g3, q1]
    | false =>
      rw [e3] at g2
      have : putAt t k (.node l k r) = t := by
        have e := modAt_put (f := id) t k
        rw [modAt_same t k rfl, hp] at e
        exact e.symm
      simp [c__law_fixed, g0, g1, g2, this]
def setAll (h : Bool) (t : T) (ks : List Int) : T := ks.foldr (fun k u => modAt (setRight h) u k) t
theorem setAll_keys (h : Bool) (t : T) : ∀ ks : List Int, (setAll h t ks).keys = t.keys
  | [] => rfl
  | k :: ks => by
    show (modAt (setRight h) (setAll h t ks) k).keys = _
    rw [modAt_keys (setRight_keys h), setAll_keys h t ks]
theorem setAll_app (h : Bool) (t : T) (as bs : List Int) : setAll h t (as ++ bs) = setAll h (setAll h t bs) as := by
  unfold setAll
  rw [List.foldr_append]
theorem l_set_go (h : Bool) (a : D) : ∀ (ks : List Int) (t : T) (x : Option D) (n : Nat), t.size + 6 ≤ n → t.size ≤ 60 → Bst t → (∀ k ∈ ks, k ∈ t.keys) →
    ∃ y, forGo 3 (fun ρ => evS ⟨callD n, lvD n⟩ (.set 1 (.call ._law_fixed (.cons (.var 0) (.cons (.var 1) (.cons (.var 3) .nil)))) .nil) ρ) (ks.reverse.map PyData.int) [some (.str (wd h)), some (enc t), some a, x] = some (.nx [some (.str (wd h)), some (enc (setAll h t ks)), some a, y]) := by
  intro ks
  suffices hh : ∀ (js : List Int) (t : T) (x : Option D) (n : Nat), t.size + 6 ≤ n → t.size ≤ 60 → Bst t → (∀ k ∈ js, k ∈ t.keys) →
    ∃ y, forGo 3 (fun ρ => evS ⟨callD n, lvD n⟩ (.set 1 (.call ._law_fixed (.cons (.var 0) (.cons (.var 1) (.cons (.var 3) .nil)))) .nil) ρ) (js.map PyData.int) [some (.str (wd h)), some (enc t), some a, x] = some (.nx [some (.str (wd h)), some (enc (setAll h t js.reverse)), some a, y]) by
    intro t x n h1 h2 h3 h4
    have := hh ks.reverse t x n h1 h2 h3 (fun k hk => h4 k (List.mem_reverse.mp hk))
    rw [List.reverse_reverse] at this
    exact this
  intro js
  induction js with
  | nil => intro t x n _ _ _ _; exact ⟨x, rfl⟩
  | cons j js ih =>
    intro t x n h1 h2 h3 h4
    have g := l_fixed h t j h1 h2 h3 (h4 j List.mem_cons_self)
    have mk := modAt_keys (setRight_keys h) t j
    obtain ⟨y, hy⟩ := ih (modAt (setRight h) t j) (some (.int j)) n (by rw [size_congr mk]; exact h1) (by rw [size_congr mk]; exact h2) (h3.congr mk) (fun k hk => by rw [mk]; exact h4 k (List.mem_cons_of_mem _ hk))
    refine ⟨y, ?_⟩
    rw [List.reverse_cons, setAll_app]
    simp [g] at hy ⊢
    simp [forGo, g]
    exact hy
theorem l_set (h : Bool) (t : T) (ks : List Int) {n : Nat} (hn : t.size + 7 ≤ n) (hz : t.size ≤ 60) (hb : Bst t) (hk : ∀ k ∈ ks, k ∈ t.keys) : callD n ._law_set [.str (wd h), enc t, .list (ks.map PyData.int)] = some (enc (setAll h t ks)) := by
  obtain ⟨m, rfl, hm⟩ := up (c := t.size + 6) hn
  obtain ⟨y, hy⟩ := l_set_go h (.list (ks.map PyData.int)) ks t none m hm hz hb hk
  rw [List.map_reverse] at hy
  refine k__law_set ?_
  simp only [c__law_set, s_forl, e_rev, e_var, g_2, Option.bind_some, asL_l, hy]
  simp
end TT
set_option Elab.async false
set_option linter.all false
set_option maxRecDepth 100000
set_option maxHeartbeats 4000000
/-! What the law's own defs give, 4: all that lies behind a deed. -/
namespace TT
open PySem L2
theorem setAll_left (h : Bool) (x : Int) (r : T) : ∀ (ks : List Int) (l : T), (∀ k ∈ ks, k < x) → setAll h (.node l x r) ks = .node (setAll h l ks) x r
  | [], _, _ => rfl
  | k :: ks, l, hk => by
    have := hk k List.mem_cons_self
    show modAt (setRight h) (setAll h (.node l x r) ks) k = _
    rw [setAll_left h x r ks l (fun y hy => hk y (List.mem_cons_of_mem _ hy)), modAt, if_neg (by omega), if_pos this]
    rfl
theorem setAll_right (h : Bool) (x : Int) (l : T) : ∀ (ks : List Int) (r : T), (∀ k ∈ ks, x < k) → setAll h (.node l x r) ks = .node l x (setAll h r ks)
  | [], _, _ => rfl
  | k :: ks, r, hk => by
    have := hk k List.mem_cons_self
    show modAt (setRight h) (setAll h (.node l x r) ks) k = _
    rw [setAll_right h x l ks r (fun y hy => hk y (List.mem_cons_of_mem _ hy)), modAt, if_neg (by omega), if_neg (by omega)]
    rfl
theorem setAll_top (h : Bool) (x : Int) (l r : T) (ks : List Int) (t u : T) (e : setAll h t ks = .node l x r) : setAll h t (x :: ks) = setRight h (.node l x r) := by
  show modAt (setRight h) (setAll h t ks) x = _
  rw [e, modAt, if_pos rfl]
theorem path_sub' : ∀ (t : T) (k y : Int), ¬ k ∈ t.keys → y ∈ path t k → y ∈ t.keys
  | .nil, _, _, _, h => by simp [path] at h
  | .node l x r, k, y, hk, h => by
    rw [mem_node] at hk ⊢
    unfold path at h
    split at h
    · rename_i c
      exact absurd (.inr (.inl c.symm)) hk
    · split at h
      · rcases List.mem_cons.mp h with e | h
        · exact .inr (.inl e)
        · exact .inl (path_sub' l k y (fun h => hk (.inl h)) h)
      · rcases List.mem_cons.mp h with e | h
        · exact .inr (.inl e)
        · exact .inr (.inr (path_sub' r k y (fun h => hk (.inr (.inr h))) h))
theorem put_set (h : Bool) : ∀ (t : T) (k : Int), Bst t → ¬ k ∈ t.keys → setAll h (withLeaf t k) (path t k) = putRight h t k
  | .nil, _, _, _ => rfl
  | .node l x r, k, hb, hk => by
    have hk' := hk
    rw [mem_node] at hk'
    have c0 : ¬ x = k := fun e => hk' (.inr (.inl e.symm))
    unfold path withLeaf putRight
    rw [if_neg c0]
    by_cases c : k < x
    · rw [if_pos c, if_pos c, if_pos c, setAll_top h x (putRight h l k) r _ _ .nil]
      rw [setAll_left h x r _ _ (fun y hy => hb.2.2.1 y (path_sub' l k y (fun h => hk' (.inl h)) hy)), put_set h l k hb.1 (fun h => hk' (.inl h))]
    · rw [if_neg c, if_neg c, if_neg c, setAll_top h x l (putRight h r k) _ _ .nil]
      rw [setAll_right h x l _ _ (fun y hy => hb.2.2.2 y (path_sub' r k y (fun h => hk' (.inr (.inr h))) hy)), put_set h r k hb.2.1 (fun h => hk' (.inr (.inr h)))]
theorem path_l {l r : T} {x k : Int} (c0 : ¬ x = k) (c : k < x) : path (.node l x r) k = x :: path l k := by rw [path, if_neg c0, if_pos c]
theorem path_r {l r : T} {x k : Int} (c0 : ¬ x = k) (c : ¬ k < x) : path (.node l x r) k = x :: path r k := by rw [path, if_neg c0, if_neg c]
theorem path_e {l r : T} {x k : Int} (c0 : x = k) : path (.node l x r) k = [k] := by rw [path, if_pos c0]
/-- the ways to what is taken out -/
def abv : T → Int → List Int
  | .nil, _ => []
  | .node l x r, k => if x = k then (if l.isNil || r.isNil then [] else least r :: (path r (least r)).dropLast) else if k < x then x :: abv l k else x :: abv r k
theorem path_ne : ∀ (t : T) (k : Int), k ∈ t.keys → path t k ≠ []
  | .nil, _, h => absurd h not_mem_nil
  | .node l x r, k, _ => by
    unfold path
    split
    · exact List.cons_ne_nil _ _
    · split <;> exact List.cons_ne_nil _ _
theorem dl_cons {x : Int} {ws : List Int} (h : ws ≠ []) : (x :: ws).dropLast = x :: ws.dropLast := List.dropLast_cons_of_ne_nil h
theorem abv_eq : ∀ (t : T) (k : Int) (l r : T), Bst t → k ∈ t.keys → part t k = .node l k r → abv t k = (path t k).dropLast ++ (if l.isNil || r.isNil then [] else least r :: (path r (least r)).dropLast)
  | .nil, _, _, _, _, hk, _ => absurd hk not_mem_nil
  | .node a x b, k, l, r, hb, hk, hp => by
    unfold part at hp
    by_cases c0 : x = k
    · rw [if_pos c0] at hp
      cases hp
      rw [abv, if_pos rfl, path_e rfl]
      rfl
    · rw [if_neg c0] at hp
      rw [abv, if_neg c0]
      by_cases c : k < x
      · rw [if_pos c] at hp
        have hl := in_left hb hk c
        rw [if_pos c, path_l c0 c, dl_cons (path_ne a k hl), abv_eq a k l r hb.1 hl hp, List.cons_append]
      · rw [if_neg c] at hp
        have hl := in_right hb hk (by omega)
        rw [if_neg c, path_r c0 c, dl_cons (path_ne b k hl), abv_eq b k l r hb.2.1 hl hp, List.cons_append]
theorem least_abv : ∀ (r : T), Bst r → r.isNil = false → abv r (least r) = (path r (least r)).dropLast
  | .nil, _, h => nomatch h
  | .node l x r, hb, _ => by
    unfold least
    split
    · rename_i c
      rw [abv, if_pos rfl, c, path, if_pos rfl]
      rfl
    · rename_i c
      have c : l.isNil = false := by simpa using c
      have m := least_mem c
      have lt := hb.2.2.1 _ m
      rw [abv, if_neg (by omega), if_pos lt, path, if_neg (by omega), if_pos lt, dl_cons (path_ne l _ m), least_abv l hb.1 c]
theorem path_least : ∀ (r : T) (y : Int), Bst r → r.isNil = false → y ∈ (path r (least r)).dropLast → least r < y ∧ y ∈ r.keys
  | .nil, _, _, h, _ => nomatch h
  | .node l x r, y, hb, _, h => by
    unfold least at h ⊢
    split at h
    · rw [path, if_pos rfl] at h
      cases h
    · rename_i c
      rw [if_neg c]
      have c : l.isNil = false := by simpa using c
      have m := least_mem c
      have lt := hb.2.2.1 _ m
      rw [path, if_neg (by omega), if_pos lt, dl_cons (path_ne l _ m)] at h
      rcases List.mem_cons.mp h with e | h
      · rw [e]; exact ⟨lt, mem_node.mpr (.inr (.inl rfl))⟩
      · have := path_least l y hb.1 c h
        exact ⟨this.1, mem_node.mpr (.inl this.2)⟩
theorem abv_mem : ∀ (t : T) (k y : Int), Bst t → k ∈ t.keys → y ∈ abv t k → y ∈ (without t k).keys
  | .nil, _, _, _, hk, _ => absurd hk not_mem_nil
  | .node l x r, k, y, hb, hk, h => by
    unfold abv at h
    unfold without
    split at h
    · rename_i c
      rw [if_neg (by omega), if_neg (by omega)]
      split at h
      · cases h
      · rename_i cn
        rw [if_neg cn]
        have cr : r.isNil = false := by
          cases q : r.isNil
          · rfl
          · rw [q, Bool.or_true] at cn
            exact absurd rfl cn
        rcases List.mem_cons.mp h with e | h
        · exact mem_node.mpr (.inr (.inl e))
        · have := path_least r y hb.2.1 cr h
          refine mem_node.mpr (.inr (.inr ((without_mem r _ hb.2.1 (least_mem cr)).mpr ⟨this.2, by omega⟩)))
    · rename_i c0
      split at h
      · rename_i c
        rw [if_pos c]
        rcases List.mem_cons.mp h with e | h
        · exact mem_node.mpr (.inr (.inl e))
        · exact mem_node.mpr (.inl (abv_mem l k y hb.1 (in_left hb hk c) h))
      · rename_i c
        rw [if_neg c, if_pos (by omega)]
        rcases List.mem_cons.mp h with e | h
        · exact mem_node.mpr (.inr (.inl e))
        · exact mem_node.mpr (.inr (.inr (abv_mem r k y hb.2.1 (in_right hb hk (by omega)) h)))
theorem take_set (h : Bool) : ∀ (t : T) (k : Int), Bst t → k ∈ t.keys → setAll h (without t k) (abv t k) = takeRight h t k
  | .nil, _, _, hk => absurd hk not_mem_nil
  | .node l x r, k, hb, hk => by
    unfold abv without takeRight
    by_cases c0 : x = k
    · subst c0
      rw [if_pos rfl, if_neg (Int.lt_irrefl x), if_neg (Int.lt_irrefl x), if_neg (Int.lt_irrefl x), if_neg (Int.lt_irrefl x)]
      by_cases cn : (l.isNil || r.isNil) = true
      · rw [if_pos cn, if_pos cn, if_pos cn]; rfl
      · rw [if_neg cn, if_neg cn, if_neg cn]
        have cr : r.isNil = false := by
          cases q : r.isNil
          · rfl
          · rw [q, Bool.or_true] at cn
            exact absurd rfl cn
        have ih := take_set h r (least r) hb.2.1 (least_mem cr)
        rw [least_abv r hb.2.1 cr] at ih
        rw [setAll_top h (least r) l (takeRight h r (least r)) _ _ .nil]
        rw [setAll_right h (least r) l _ _ (fun y hy => (path_least r y hb.2.1 cr hy).1), ih]
    · rw [if_neg c0]
      by_cases c : k < x
      · have hl := in_left hb hk c
        rw [if_pos c, if_pos c, if_pos c, setAll_top h x (takeRight h l k) r _ _ .nil]
        rw [setAll_left h x r _ _ (fun y hy => hb.2.2.1 y ((without_mem l k hb.1 hl).mp (abv_mem l k y hb.1 hl hy)).1), take_set h l k hb.1 hl]
      · have hl := in_right hb hk (by omega)
        rw [if_neg c, if_neg c, if_pos (by omega), if_neg c, if_pos (by omega), setAll_top h x l (takeRight h r k) _ _ .nil]
        rw [setAll_right h x l _ _ (fun y hy => hb.2.2.2 y ((without_mem r k hb.2.1 hl).mp (abv_mem r k y hb.2.1 hl hy)).1), take_set h r k hb.2.1 hl]
theorem without_put : ∀ (t : T) (k : Int), Bst t → k ∈ t.keys → without t k = putAt t k (without (part t k) k)
  | .nil, _, _, hk => absurd hk not_mem_nil
  | .node l x r, k, hb, hk => by
    unfold putAt part
    by_cases c0 : x = k
    · rw [if_pos c0, if_pos c0]
    · rw [if_neg c0, if_neg c0, without]
      by_cases c : k < x
      · rw [if_pos c, if_pos c, if_pos c, without_put l k hb.1 (in_left hb hk c)]
      · rw [if_neg c, if_neg c, if_pos (by omega), if_neg c, without_put r k hb.2.1 (in_right hb hk (by omega))]
theorem keys_first : ∀ t : T, Bst t → t.isNil = false → ∃ zs, t.keys = least t :: zs
  | .nil, _, h => nomatch h
  | .node l x r, hb, _ => by
    unfold least T.keys
    cases c : l.isNil with
    | true =>
      rw [isNil_eq c]
      exact ⟨r.keys, rfl⟩
    | false =>
      obtain ⟨zs, e⟩ := keys_first l hb.1 c
      exact ⟨zs ++ [x] ++ r.keys, by rw [e]; rfl⟩
theorem keys_last : ∀ t : T, Bst t → t.isNil = false → ∃ zs, t.keys = zs ++ [greatest t]
  | .nil, _, h => nomatch h
  | .node l x r, hb, _ => by
    unfold greatest T.keys
    cases c : r.isNil with
    | true =>
      rw [isNil_eq c]
      exact ⟨l.keys, List.append_nil _⟩
    | false =>
      obtain ⟨zs, e⟩ := keys_last r hb.2.1 c
      exact ⟨l.keys ++ [x] ++ zs, by rw [e, if_neg Bool.false_ne_true, List.append_assoc (l.keys ++ [x])]⟩
theorem cut_dl (ks : List Int) (h : ks ≠ []) : cutD (ks.map PyData.int) none (some (-1)) = ks.dropLast.map PyData.int := by
  have hl : 0 < ks.length := List.length_pos_iff.mpr h
  have e2 : HT.sIx ks.length ks.length (some (-1)) = ks.length - 1 := by simp [HT.sIx]; omega
  unfold cutD
  rw [List.length_map, e2, HT.sIx_none, List.drop_zero, Nat.sub_zero, ← List.map_take, List.dropLast_eq_take]
theorem l_out : ∀ (f : Nat) (t : T) (k : Int) (n : Nat), t.size ≤ f → t.size + f + 4 ≤ n → t.size ≤ 60 → Bst t → k ∈ t.keys → callD n ._law_out [enc t, .int k] = some (.tuple [enc (without t k), .list ((abv t k).map PyData.int)]) := by
  intro f
  induction f with
  | zero =>
    intro t k n h1 h2 h3 hb hk
    cases t with
    | nil => exact absurd hk not_mem_nil
    | node l x r => simp only [T.size] at h1; omega
  | succ f ih =>
    intro t k n h1 h2 h3 hb hk
    obtain ⟨m, rfl, hm⟩ := up (c := t.size + f + 4) (n := n) (by omega)
    obtain ⟨l, r, hp⟩ := part_node t k hb hk
    have ps := part_size t k
    have pb := part_bst t k hb hk
    have g0 := l_part t k (n := m) (by omega) h3 hb hk
    have g1 := l_path t k m (by omega) (by omega)
    have cd := cut_dl (path t k) (path_ne t k hk)
    have ae := abv_eq t k l r hb hk hp
    have pl := path_le t k
    rw [without_put t k hb hk, ae]
    rw [hp] at g0 ps pb ⊢
    rw [enc_node] at g0
    simp only [T.size] at ps
    refine k__law_out ?_
    rw [without, if_neg (by omega), if_neg (by omega)]
    cases cr : r.isNil with
    | true =>
      have gp := l_put t k _ l m rfl (by omega) hb hk
      simp [c__law_out, g0, g1, cd, cr, gp]
    | false =>
      cases cl : l.isNil with
      | true =>
        have gp := l_put t k _ r m rfl (by omega) hb hk
        simp [c__law_out, g0, g1, cd, cr, cl, gp]
      | false =>
        obtain ⟨zs, ek⟩ := keys_first r pb.2.1 cr
        have lm := least_mem cr
        have q1 := l_keys r m (by omega) (by omega)
        rw [ek, List.map_cons] at q1
        have q2 := l_path r (least r) m (by omega) (by omega)
        have q3 := cut_dl (path r (least r)) (path_ne r _ lm)
        have q4 := ih r (least r) m (by omega) (by omega) (by omega) pb.2.1 lm
        have q5 := l_put t k _ (.node l (least r) (without r (least r))) m rfl (by omega) hb hk
        have pr := path_le r (least r)
        have d1 := List.length_dropLast (xs := path t k)
        have d2 := List.length_dropLast (xs := path r (least r))
        rw [enc_node] at q5
        simp [c__law_out, g0, g1, cd, cr, cl, q1, q2, q3, q4, q5]
        rw [if_pos (by omega)]
        simp
        rw [if_pos (by omega)]
        simp
theorem l_top_go : ∀ (f : Nat) (t : T) (k : Int) (n : Nat), t.size + 1 ≤ n → Bst t → k ∈ t.keys → way t k + 1 ≤ f →
    whileGo (fun ρ => (ev ⟨callD n, lvD n⟩ (.and (.b2 .eq (.var 0) (.cst (.str "top"))) (.b2 .ne (.b2 .ix (.var 1) (.cst (.int 1))) (.var 2))) ρ).bind asB) (fun ρ => evS ⟨callD n, lvD n⟩ (.set 1 (.call ._law_turn (.cons (.var 1) (.cons (.var 2) .nil))) .nil) ρ) f [some (.str (Rule.name .top)), some (enc t), some (.int k)] = some (.nx [some (.str (Rule.name .top)), some (enc (toTop (f - 1) t k)), some (.int k)]) := by
  intro f
  induction f with
  | zero => intro t k n _ _ _ h; omega
  | succ f ih =>
    intro t k n hn hb hk hf
    cases t with
    | nil => exact absurd hk not_mem_nil
    | node l x r =>
      by_cases e : x = k
      · have : toTop (f + 1 - 1) (.node l x r) k = .node l x r := by
          cases f with
          | zero => rfl
          | succ f => simp [toTop, rootIs, e]
        rw [this, whileGo]
        simp [e, Rule.tag]
      · have hv := l_turn (.node l x r) k n hn hb hk e
        have hw := way_turned (.node l x r) k hb hk e
        rw [enc_node] at hv
        have h2 := ih (turned (.node l x r) k) k n (by rw [size_congr (turned_keys _ _)]; exact hn) (hb.congr (turned_keys _ _)) (by rw [turned_keys]; exact hk) (by omega)
        rw [whileGo]
        simp [e, hv, Rule.tag]
        have h3 : toTop f (.node l x r) k = toTop (f - 1) (turned (.node l x r) k) k := by
          cases f with
          | zero => omega
          | succ f => simp [toTop, rootIs, e]
        rw [h3]
        simpa [Rule.tag] using h2
theorem l_moved (ru : Rule) (t : T) (k : Int) {n : Nat} (hn : t.size + 5 ≤ n) (hz : t.size ≤ 50) (hb : Bst t) (hk : k ∈ t.keys) : callD n ._law_moved [.str ru.name, enc t, .int k] = some (enc (movedT ru t k)) := by
  obtain ⟨m, rfl, hm⟩ := up (c := t.size + 4) hn
  have nn := keys_of_sides (not_nil_of hk)
  have e1 : op2 .ix (enc t) (.int 1) = some (.int t.root) := by rw [nn]; simp [T.root]
  refine k__law_moved ?_
  by_cases ht : ru = .top
  · subst ht
    have := l_top_go 64 t k m (by omega) hb hk (by have := way_le t k; omega)
    have hw : evS ⟨callD m, lvD m⟩ (.whl (.and (.b2 .eq (.var 0) (.cst (.str "top"))) (.b2 .ne (.b2 .ix (.var 1) (.cst (.int 1))) (.var 2))) (.set 1 (.call ._law_turn (.cons (.var 1) (.cons (.var 2) .nil))) .nil) (.ret (.var 1) .nil)) [some (.str (Rule.name .top)), some (enc t), some (.int k)] = some (.rt (enc (toTop 63 t k))) := by
      rw [s_whl, this]
      simp
    simp [c__law_moved, Rule.tag, movedT, hw, -s_whl]
  · by_cases ho : ru = .once
    · subst ho
      by_cases e : t.root = k
      · simp [c__law_moved, whileGo, Rule.tag, movedT, onceUp, rootIs_iff (not_nil_of hk), e, e1, -o_ix]
      · simp [c__law_moved, Rule.tag, movedT, onceUp, rootIs_iff (not_nil_of hk), e, e1, l_turn t k m (by omega) hb hk e, -o_ix]
    · by_cases hs : ru = .splayed
      · subst hs
        simp [c__law_moved, Rule.tag, movedT, l_splay (t := t) (k := k) (n := m) (by omega) (by omega) hb hk]
      · cases ru <;> first | exact absurd rfl ht | exact absurd rfl ho | exact absurd rfl hs | simp [c__law_moved, whileGo, Rule.tag, movedT]
theorem l_splay_out {t : T} {k : Int} {n : Nat} (hn : t.size + 4 ≤ n) (hz : t.size ≤ 60) (hb : Bst t) (hk : k ∈ t.keys) : callD n ._law_splay_out [enc t, .int k] = some (enc (withoutSplayed t k)) := by
  obtain ⟨m, rfl, hm⟩ := up (c := t.size + 3) hn
  have h1 := l_splay (n := m) hm hz hb hk
  have sk := splayed_keys t k
  have nn : (splayed t k).isNil = false := not_nil_of (k := k) (by rw [sk]; exact hk)
  have eN := keys_of_sides nn
  have sz : (splayed t k).size = t.size := size_congr sk
  have sb : Bst (splayed t k) := hb.congr sk
  refine k__law_splay_out ?_
  rw [withoutSplayed]
  rw [eN] at h1 sz sb
  generalize (splayed t k).left = l at *
  generalize (splayed t k).right = r at *
  generalize (splayed t k).root = x at *
  rw [enc_node] at h1
  simp only [T.size] at sz
  cases hl : l.isNil with
  | true => simp [c__law_splay_out, h1, hl]
  | false =>
    obtain ⟨zs, ek⟩ := keys_last l sb.1 hl
    have kl := keys_len l
    have b1 : atI ((zs ++ [greatest l]).map PyData.int) (-1) = some (.int (greatest l)) := by rw [List.map_append]; exact atI_last _ _
    have g1 := l_keys l m (by omega) (by omega)
    rw [ek] at g1
    have g2 := l_splay (t := l) (k := greatest l) (n := m) (by omega) (by omega) sb.1 (greatest_mem hl)
    have lk := splayed_keys l (greatest l)
    have ln : (splayed l (greatest l)).isNil = false := not_nil_of (k := greatest l) (by rw [lk]; exact greatest_mem hl)
    have eL := keys_of_sides ln
    generalize hu : splayed l (greatest l) = u at *
    generalize hz : (zs ++ [greatest l]).map PyData.int = zz at *
    cases u with
    | nil => exact nomatch ln
    | node a j b =>
      rw [enc_node] at g2
      simp [c__law_splay_out, h1, hl, g1, b1, g2, hang]
end TT
set_option Elab.async false
set_option linter.all false
set_option maxRecDepth 100000
set_option maxHeartbeats 4000000
/-! What the law's own defs give, 5: behind a deed. -/
namespace TT
open PySem L2
theorem decT_enc : ∀ (t : T) (n : Nat), t.ht < n → decT n (enc t) = some t
  | .nil, n, h => by
    obtain ⟨m, rfl, _⟩ := up (c := 0) h
    rfl
  | .node l x r, n, h => by
    simp only [T.ht] at h
    obtain ⟨m, rfl, hm⟩ := up (c := 1 + max l.ht r.ht) h
    have e1 := decT_enc l m (by omega)
    have e2 := decT_enc r m (by omega)
    rw [enc_node, decT, e1, Option.bind_some, e2, Option.bind_some]
theorem lvD_in {t : T} {k : Int} {n : Nat} (hn : 20 ≤ n) (hz : t.size ≤ 8) (hb : Bst t) : lvD n true (enc t) (.int k) = some (enc (bare (putIn (ranked t) k))) := by
  have := ht_le t
  have e : lvOk true t k = true := by
    unfold lvOk
    rw [decide_eq_true hz, decide_eq_true ((bst_iff t).mp hb)]
    rfl
  unfold lvD
  rw [if_pos hn, decT_enc t 16 (by omega), Option.bind_some, asI_i, Option.bind_some, e]
  rfl
theorem lvD_out {t : T} {k : Int} {n : Nat} (hn : 20 ≤ n) (hz : t.size ≤ 8) (hb : Bst t) (hk : k ∈ t.keys) : lvD n false (enc t) (.int k) = some (enc (bare (takeOut (ranked t) k))) := by
  have := ht_le t
  have e : lvOk false t k = true := by
    unfold lvOk
    rw [decide_eq_true hz, decide_eq_true ((bst_iff t).mp hb), decide_eq_true hk]
    rfl
  unfold lvD
  rw [if_pos hn, decT_enc t 16 (by omega), Option.bind_some, asI_i, Option.bind_some, e]
  rfl
theorem tailR (o : List Int) : Rule.tail (.ranks o) = [.tuple (o.map PyData.int)] := rfl
theorem l_in (ru : Rule) (hr : RuleOk ru) (t : T) (k : Int) {n : Nat} (hn : t.size + 25 ≤ n) (hz : t.size ≤ 8) (hb : Bst t) (hk : ¬ k ∈ t.keys) : callD n ._law_in [encRule ru, enc t, .int k] = some (enc (withKey ru t k)) := by
  obtain ⟨m, rfl, hm⟩ := up (c := t.size + 24) hn
  have wl := withLeaf_size t k
  have wb := withLeaf_bst t k hb hk
  have wk : k ∈ (withLeaf t k).keys := (withLeaf_mem t k).mpr (.inl rfl)
  have g1 := l_leaf t k (n := m) (by omega) (by omega) hb hk
  have mv := fun ru => l_moved ru (withLeaf t k) k (n := m) (by omega) (by omega) wb wk
  have sp := l_path t k m (by omega) (by omega)
  have ss := fun h => l_set h (withLeaf t k) (path t k) (n := m) (by omega) (by omega) wb (fun y hy => (withLeaf_mem t k).mpr (.inr (path_sub' t k y hk hy)))
  refine k__law_in ?_
  cases ru with
  | heights => have := ss true; rw [put_set true t k hb hk, ← wd_h] at this; simp [c__law_in, encRule, Rule.tag, Rule.isHW, withKey, this, sp, g1]
  | weights => have := ss false; rw [put_set false t k hb hk, ← wd_w] at this; simp [c__law_in, encRule, Rule.tag, Rule.isHW, withKey, this, sp, g1]
  | levels => simp [c__law_in, encRule, Rule.tag, Rule.isHW, withKey, lvD_in (t := t) (k := k) (n := m) (by omega) (by omega) hb]
  | rebuilt => simp [c__law_in, encRule, Rule.tag, Rule.isHW, withKey, g1, l_again (withLeaf t k) m (by omega) (by omega)]
  | ranks o =>
    have kl := keys_len t
    have ol := len6 hr
    have fl : (o.filter fun y => decide (y ∈ t.keys ++ [k])).length ≤ o.length := List.length_filter_le _ _
    have g := l_plant (o.filter fun y => decide (y ∈ t.keys ++ [k])).length (o.filter fun y => decide (y ∈ t.keys ++ [k])) m (Nat.le_refl _) (by omega) (by omega)
    rw [← byOrder_eq] at g
    have e := e_filter (M := ⟨callD m, lvD m⟩) (l := false) (i := 5) (src := .b2 .ix (.var 0) (.cst (.int 1))) (cond := .b2 .inn (.var 5) (.var 4)) (ρ := [some (.tuple [.str (Rule.name (.ranks o)), .tuple (o.map PyData.int)]), some (enc t), some (.int k), some (.str (Rule.name (.ranks o))), some (.list ((t.keys ++ [k]).map PyData.int)), none]) (xs := o) (fun y => decide (y ∈ t.keys ++ [k])) (by simp) (by simp) rfl (by omega) (fun x _ => by simp only [e_b2, e_var, t_5, g_5, g_4, Option.bind_some, o_inL, asB_b])
    generalize (o.filter fun y => decide (y ∈ t.keys ++ [k])) = ks at *
    have hl : (t.keys.map PyData.int).length ≤ 999 := by rw [List.length_map]; omega
    rw [List.map_append] at e
    simp only [List.map_cons, List.map_nil] at e
    simp [c__law_in, encRule, tailR, Rule.tag, Rule.isHW, withKey, l_keys t m (by omega) (by omega), g, -List.length_map]
    rw [if_pos hl]
    simp [e, g]
  | once => have := mv .once; simp [c__law_in, encRule, Rule.tag, Rule.isHW, withKey, g1, this]
  | plain => have := mv .plain; simp [c__law_in, encRule, Rule.tag, Rule.isHW, withKey, g1, this]
  | splayed => have := mv .splayed; simp [c__law_in, encRule, Rule.tag, Rule.isHW, withKey, g1, this]
  | top => have := mv .top; simp [c__law_in, encRule, Rule.tag, Rule.isHW, withKey, g1, this]
theorem filt2 (o ks : List Int) (k : Int) : (o.filter fun y => decide (y ∈ ks) && !decide (y = k)) = o.filter fun y => decide (y ∈ ks.filter fun z => decide (z ≠ k)) := by
  congr 1
  funext y
  simp only [List.mem_filter, decide_eq_true_eq, Bool.decide_and, ne_eq, decide_not]
  cases decide (y = k) <;> simp
theorem l_after (ru : Rule) (hr : RuleOk ru) (t : T) (w : W) (k : Int) {n : Nat} (hn : t.size + t.size + 30 ≤ n) (hz : t.size ≤ 8) (hb : Bst t) (hk : Poss t w k) : callD n ._law_after [encRule ru, enc t, encDeed w k] = some (enc (behindT ru t w k)) := by
  obtain ⟨m, rfl, hm⟩ := up (c := t.size + t.size + 29) hn
  refine k__law_after ?_
  cases w with
  | ask => simp [c__law_after, encRule, encDeed, W.tag, behindT, l_moved ru t k (n := m) (by omega) (by omega) hb hk]
  | inn => have := l_in ru hr t k (n := m) (by omega) (by omega) hb hk; simp [encRule] at this; simp [c__law_after, encRule, encDeed, W.tag, behindT, this]
  | out =>
    have hk : k ∈ t.keys := hk
    have ws := without_size t k
    have g1 := l_out t.size t k m (Nat.le_refl _) (by omega) (by omega) hb hk
    have ss := fun h => l_set h (without t k) (abv t k) (n := m) (by omega) (by omega) (without_bst t k hb hk) (fun y hy => abv_mem t k y hb hk hy)
    cases ru with
    | heights => have := ss true; rw [take_set true t k hb hk, ← wd_h] at this; simp [c__law_after, encRule, encDeed, W.tag, Rule.tag, Rule.isHW, behindT, withoutKey, this, g1]
    | weights => have := ss false; rw [take_set false t k hb hk, ← wd_w] at this; simp [c__law_after, encRule, encDeed, W.tag, Rule.tag, Rule.isHW, behindT, withoutKey, this, g1]
    | levels => simp [c__law_after, encRule, encDeed, W.tag, Rule.tag, Rule.isHW, behindT, withoutKey, lvD_out (t := t) (k := k) (n := m) (by omega) (by omega) hb hk]
    | rebuilt => simp [c__law_after, encRule, encDeed, W.tag, Rule.tag, Rule.isHW, behindT, withoutKey, g1, l_again (without t k) m (by omega) (by omega)]
    | ranks o =>
      have kl := keys_len t
      have ol := len6 hr
      have fl : (o.filter fun y => decide (y ∈ t.keys) && !decide (y = k)).length ≤ o.length := List.length_filter_le _ _
      have g := l_plant (o.filter fun y => decide (y ∈ t.keys) && !decide (y = k)).length (o.filter fun y => decide (y ∈ t.keys) && !decide (y = k)) m (Nat.le_refl _) (by omega) (by omega)
      have e := e_filter (M := ⟨callD m, lvD m⟩) (l := false) (i := 7) (src := .b2 .ix (.var 0) (.cst (.int 1))) (cond := .and (.b2 .inn (.var 7) (.call ._law_keys (.cons (.var 1) .nil))) (.b2 .ne (.var 7) (.var 4))) (ρ := [some (.tuple [.str (Rule.name (.ranks o)), .tuple (o.map PyData.int)]), some (enc t), some (encDeed .out k), some (.str (Rule.name (.ranks o))), some (.int k), none, none, none]) (xs := o) (fun y => decide (y ∈ t.keys) && !decide (y = k)) (by simp) (by simp) rfl (by omega) (fun x _ => by
        simp only [e_and, e_call, e_cons, e_nil, asT_t, e_b2, e_var, t_7, g_7, g_1, g_4, Option.bind_some, o_inL, asB_b, o_neii, l_keys t m (by omega) (by omega)]
        cases decide (x ∈ t.keys) <;> simp)
      rw [show (plant (o.filter fun y => decide (y ∈ t.keys) && !decide (y = k))) = behindT (.ranks o) t .out k from by rw [filt2]; rfl] at g
      generalize (o.filter fun y => decide (y ∈ t.keys) && !decide (y = k)) = ks at *
      generalize behindT (.ranks o) t .out k = u at *
      simp [c__law_after, encRule, encDeed, tailR, W.tag, Rule.tag, Rule.isHW] at e ⊢
      simp [e, g]
    | splayed => simp [c__law_after, encRule, encDeed, W.tag, Rule.tag, Rule.isHW, behindT, withoutKey, l_splay_out (t := t) (k := k) (n := m) (by omega) (by omega) hb hk]
    | once => simp [c__law_after, encRule, encDeed, W.tag, Rule.tag, Rule.isHW, behindT, withoutKey, g1]
    | plain => simp [c__law_after, encRule, encDeed, W.tag, Rule.tag, Rule.isHW, behindT, withoutKey, g1]
    | top => simp [c__law_after, encRule, encDeed, W.tag, Rule.tag, Rule.isHW, behindT, withoutKey, g1]
end TT
set_option Elab.async false
set_option linter.all false
set_option maxRecDepth 100000
set_option maxHeartbeats 4000000
/-! Rows of deeds. -/
namespace TT
open PySem L2
theorem asc_len : ∀ (l : List Int) (lo : Int), l.Pairwise (· < ·) → (∀ y ∈ l, lo ≤ y ∧ y ≤ 6) → (l.length : Int) ≤ 7 - lo ∨ l = []
  | [], _, _, _ => .inr rfl
  | x :: r, lo, hp, h => by
    obtain ⟨h1, h2⟩ := List.pairwise_cons.mp hp
    have hx := h x List.mem_cons_self
    rcases asc_len r (x + 1) h2 (fun y hy => ⟨by have := h1 y hy; omega, (h y (List.mem_cons_of_mem _ hy)).2⟩) with e | e
    · left; rw [List.length_cons]; omega
    · left; rw [e]; simp; omega
theorem size6 {t : T} (hb : Bst t) (h6 : Keys6 t) : t.size ≤ 6 := by
  rw [← keys_len]
  rcases asc_len t.keys 1 ((bst_iff t).mp hb) h6 with e | e
  · omega
  · rw [e]; exact Nat.zero_le _
theorem movedT_keys (ru : Rule) (t : T) (k : Int) : (movedT ru t k).keys = t.keys := by
  cases ru <;> first | rfl | exact onceUp_keys t k | exact toTop_keys 63 t k | exact splayed_keys t k
/-- the keys behind a deed -/
def nxt (here : List Int) (w : W) (k : Int) : List Int := nextKeys here w.str k
theorem nxt_ask (here : List Int) (k : Int) : nxt here .ask k = here := by
  unfold nxt nextKeys
  rw [if_neg (show ¬ W.str .ask = "in" by decide +kernel), if_neg (show ¬ W.str .ask = "out" by decide +kernel)]
theorem nxt_inn (here : List Int) (k : Int) : nxt here .inn k = here ++ [k] := by
  unfold nxt nextKeys
  rw [if_pos (show W.str .inn = "in" from rfl)]
theorem nxt_out (here : List Int) (k : Int) : nxt here .out k = here.filter fun y => decide (y ≠ k) := by
  unfold nxt nextKeys
  rw [if_neg (show ¬ W.str .out = "in" by decide +kernel), if_pos (show W.str .out = "out" from rfl)]
theorem nxt_congr {a b : List Int} (h : ∀ y, y ∈ a ↔ y ∈ b) (w : W) (k y : Int) : y ∈ nxt a w k ↔ y ∈ nxt b w k := by
  cases w with
  | ask => rw [nxt_ask, nxt_ask]; exact h y
  | inn => rw [nxt_inn, nxt_inn, List.mem_append, List.mem_append, h y]
  | out => rw [nxt_out, nxt_out, List.mem_filter, List.mem_filter, h y]
def Both (t u : T) (w : W) (k : Int) : Prop := Bst u ∧ ∀ y, y ∈ u.keys ↔ y ∈ nxt t.keys w k
theorem both_of {t u v : T} {w : W} {k : Int} (h : Both t u w k) (e : v.keys = u.keys) : Both t v w k := ⟨h.1.congr e, fun y => by rw [e]; exact h.2 y⟩
theorem both_in {t : T} {k : Int} (hb : Bst t) (hk : ¬ k ∈ t.keys) : Both t (withLeaf t k) .inn k :=
  ⟨withLeaf_bst t k hb hk, fun y => by
    rw [nxt_inn, withLeaf_mem, List.mem_append, List.mem_singleton]
    exact Or.comm⟩
theorem both_out {t : T} {k : Int} (hb : Bst t) (hk : k ∈ t.keys) : Both t (without t k) .out k :=
  ⟨without_bst t k hb hk, fun y => by
    rw [nxt_out, without_mem t k hb hk, List.mem_filter, decide_eq_true_eq]⟩
theorem splayed_root {t : T} {k : Int} (hz : t.size ≤ 60) (hb : Bst t) (hk : k ∈ t.keys) : (splayed t k).root = k := by
  have wl := way_le t k
  have sk := splayN_keys 63 t k
  have sl := splayN_low 63 t k hb hk (by omega)
  have ub : Bst (splayN 63 t k) := hb.congr sk
  have uk : k ∈ (splayN 63 t k).keys := by rw [sk]; exact hk
  unfold splayed onceUp
  generalize splayN 63 t k = u at *
  rw [rootIs_iff (not_nil_of uk)]
  by_cases e : u.root = k
  · simp [e]
  · rw [if_neg (by simp [e])]
    have := way_turned u k ub uk e
    refine Classical.byContradiction fun ne => ?_
    have := way_of_root (t := turned u k) (by rw [turned_keys]; exact uk) ne
    omega
theorem withoutSplayed_keys {t : T} {k : Int} (hz : t.size ≤ 60) (hb : Bst t) (hk : k ∈ t.keys) : ∃ a b, t.keys = a ++ ([k] ++ b) ∧ (withoutSplayed t k).keys = a ++ b := by
  have sk := splayed_keys t k
  have sb : Bst (splayed t k) := hb.congr sk
  have sz : (splayed t k).size = t.size := size_congr sk
  have nn : (splayed t k).isNil = false := not_nil_of (k := k) (by rw [sk]; exact hk)
  have eN := keys_of_sides nn
  rw [splayed_root hz hb hk] at eN
  have ew : withoutSplayed t k = if (splayed t k).left.isNil = true then (splayed t k).right else hang (splayed (splayed t k).left (greatest (splayed t k).left)) (splayed t k).right := rfl
  rw [ew]
  rw [eN] at sb sk sz
  generalize (splayed t k).left = l at *
  generalize (splayed t k).right = r at *
  simp only [T.size] at sz
  refine ⟨l.keys, r.keys, by rw [← sk, T.keys, List.append_assoc], ?_⟩
  cases hl : l.isNil with
  | true => rw [isNil_eq hl]; rfl
  | false =>
    rw [if_neg Bool.false_ne_true]
    have gm := greatest_mem hl
    have lk := splayed_keys l (greatest l)
    have lr := splayed_root (t := l) (k := greatest l) (by omega) sb.1 gm
    have lb : Bst (splayed l (greatest l)) := sb.1.congr lk
    have ln : (splayed l (greatest l)).isNil = false := not_nil_of (k := greatest l) (by rw [lk]; exact gm)
    generalize splayed l (greatest l) = u at *
    cases u with
    | nil => exact nomatch ln
    | node a j b =>
      have lr : j = greatest l := lr
      have bn : b = .nil := by
        cases b with
        | nil => rfl
        | node c i d =>
          have m : i ∈ (T.node c i d).keys := mem_node.mpr (.inr (.inl rfl))
          have h1 := lb.2.2.2 i m
          have h2 := greatest_ge sb.1 i (by rw [← lk]; exact mem_node.mpr (.inr (.inr m)))
          omega
      subst bn
      rw [← lk, hang]
      simp [T.keys]
theorem both_splay_out {t : T} {k : Int} (hz : t.size ≤ 60) (hb : Bst t) (hk : k ∈ t.keys) : Both t (withoutSplayed t k) .out k := by
  obtain ⟨a, b, e1, e2⟩ := withoutSplayed_keys hz hb hk
  have p := (bst_iff t).mp hb
  rw [e1] at p
  have q := List.pairwise_append.mp p
  have q2 := List.pairwise_cons.mp q.2.1
  refine ⟨(bst_iff _).mpr ?_, fun y => ?_⟩
  · rw [e2]
    exact List.pairwise_append.mpr ⟨q.1, q2.2, fun x hx y hy => q.2.2 x hx y (List.mem_cons_of_mem _ hy)⟩
  · rw [nxt_out, e1, e2, List.mem_filter, decide_eq_true_eq, List.mem_append, List.mem_append, List.singleton_append, List.mem_cons]
    constructor
    · rintro (h | h)
      · refine ⟨.inl h, ?_⟩
        have := q.2.2 y h k List.mem_cons_self
        omega
      · refine ⟨.inr (.inr h), ?_⟩
        have := q2.1 y h
        omega
    · rintro ⟨h | h | h, ne⟩
      · exact .inl h
      · exact absurd h ne
      · exact .inr h
theorem behind_both (ru : Rule) (hr : RuleOk ru) (t : T) (w : W) (k : Int) (hb : Bst t) (hk : Poss t w k) (h6 : Keys6 t) (k6 : 1 ≤ k ∧ k ≤ 6) : Both t (behindT ru t w k) w k := by
  cases w with
  | ask =>
    refine ⟨hb.congr (movedT_keys ru t k), fun y => ?_⟩
    show y ∈ (movedT ru t k).keys ↔ _
    rw [movedT_keys, nxt_ask]
  | inn =>
    have hk : ¬ k ∈ t.keys := hk
    have b := both_in hb hk
    show Both t (withKey ru t k) .inn k
    cases ru with
    | heights => exact both_of b (putRight_keys true t k)
    | weights => exact both_of b (putRight_keys false t k)
    | levels => exact both_of b (by rw [withKey, putIn_keys, bare_ranked])
    | rebuilt => exact both_of b (rebuilt_keys _)
    | ranks o =>
      refine ⟨plant_bst _, fun y => ?_⟩
      show y ∈ (byOrder o (t.keys ++ [k])).keys ↔ _
      rw [nxt_inn, byOrder_eq, plant_mem, List.mem_filter, decide_eq_true_eq]
      refine ⟨fun h => h.2, fun h => ⟨?_, h⟩⟩
      rcases List.mem_append.mp h with h | h
      · exact mem6 hr (h6 y h).1 (h6 y h).2
      · rw [List.mem_singleton.mp h]; exact mem6 hr k6.1 k6.2
    | once => exact both_of b (movedT_keys .once _ k)
    | plain => exact both_of b (movedT_keys .plain _ k)
    | splayed => exact both_of b (movedT_keys .splayed _ k)
    | top => exact both_of b (movedT_keys .top _ k)
  | out =>
    have hk : k ∈ t.keys := hk
    have b := both_out hb hk
    show Both t (withoutKey ru t k) .out k
    cases ru with
    | heights => exact both_of b (takeRight_keys true t k)
    | weights => exact both_of b (takeRight_keys false t k)
    | levels =>
      have h := takeOut_both (ranked t) k (by rw [bare_ranked]; exact hb) (by rw [bare_ranked]; exact hk)
      rw [bare_ranked] at h
      refine ⟨h.2, fun y => ?_⟩
      show y ∈ (bare (takeOut (ranked t) k)).keys ↔ _
      rw [h.1 y, nxt_out, List.mem_filter, decide_eq_true_eq]
    | rebuilt => exact both_of b (rebuilt_keys _)
    | ranks o =>
      refine ⟨plant_bst _, fun y => ?_⟩
      show y ∈ (byOrder o (t.keys.filter fun y => decide (y ≠ k))).keys ↔ _
      rw [nxt_out, byOrder_eq, plant_mem, List.mem_filter, decide_eq_true_eq]
      exact ⟨fun h => h.2, fun h => ⟨mem6 hr (h6 y (List.mem_filter.mp h).1).1 (h6 y (List.mem_filter.mp h).1).2, h⟩⟩
    | splayed => exact both_splay_out (Nat.le_trans (size6 hb h6) (by decide)) hb hk
    | once => exact b
    | plain => exact b
    | top => exact b
abbrev Deed := W × Int
def encs (ds : List Deed) : List D := ds.map fun d => encDeed d.1 d.2
def nxts (here : List Int) : List Deed → List Int
  | [] => here
  | d :: r => nxts (nxt here d.1 d.2) r
def Legal (here : List Int) : List Deed → Prop
  | [] => True
  | d :: r => (1 ≤ d.2 ∧ d.2 ≤ 6) ∧ (d.2 ∈ here ↔ d.1 ≠ .inn) ∧ Legal (nxt here d.1 d.2) r
theorem nxts_snoc (d : Deed) : ∀ (r : List Deed) (here : List Int), nxts here (r ++ [d]) = nxt (nxts here r) d.1 d.2
  | [], _ => rfl
  | c :: r, here => nxts_snoc d r (nxt here c.1 c.2)
theorem legal_snoc (d : Deed) : ∀ (r : List Deed) (here : List Int), Legal here r → (1 ≤ d.2 ∧ d.2 ≤ 6) → (d.2 ∈ nxts here r ↔ d.1 ≠ .inn) → Legal here (r ++ [d])
  | [], _, _, h1, h2 => ⟨h1, h2, trivial⟩
  | c :: r, here, h, h1, h2 => ⟨h.1, h.2.1, legal_snoc d r _ h.2.2 h1 h2⟩
theorem legal_congr : ∀ (r : List Deed) (a b : List Int), (∀ y, y ∈ a ↔ y ∈ b) → Legal a r → Legal b r
  | [], _, _, _, _ => trivial
  | d :: r, a, b, h, g => ⟨g.1, by rw [← h]; exact g.2.1, legal_congr r _ _ (nxt_congr h d.1 d.2) g.2.2⟩
theorem legal_k6 : ∀ (r : List Deed) (a : List Int), Legal a r → ∀ d ∈ r, 1 ≤ d.2 ∧ d.2 ≤ 6
  | [], _, _, _, h => nomatch h
  | c :: r, a, g, d, h => by
    rcases List.mem_cons.mp h with e | h
    · rw [e]; exact g.1
    · exact legal_k6 r _ g.2.2 d h
def shps (ru : Rule) : List Deed → T → List T
  | [], _ => []
  | d :: r, t => behindT ru t d.1 d.2 :: shps ru r (behindT ru t d.1 d.2)
def csts (ru : Rule) : List Deed → T → List Int
  | [], _ => []
  | d :: r, t => costT t d.1 d.2 :: csts ru r (behindT ru t d.1 d.2)
def Good (t : T) : Prop := Bst t ∧ Keys6 t
theorem poss_of {t : T} {w : W} {k : Int} (h : k ∈ t.keys ↔ w ≠ .inn) : Poss t w k := by
  cases w with
  | ask => exact h.mpr (fun e => nomatch e)
  | inn => exact fun m => (h.mp m) rfl
  | out => exact h.mpr (fun e => nomatch e)
theorem good_next {ru : Rule} (hr : RuleOk ru) {t : T} {w : W} {k : Int} (g : Good t) (k6 : 1 ≤ k ∧ k ≤ 6) (h : k ∈ t.keys ↔ w ≠ .inn) : Good (behindT ru t w k) ∧ ∀ y, y ∈ (behindT ru t w k).keys ↔ y ∈ nxt t.keys w k := by
  have b := behind_both ru hr t w k g.1 (poss_of h) g.2 k6
  refine ⟨⟨b.1, fun y hy => ?_⟩, b.2⟩
  have := (b.2 y).mp hy
  cases w with
  | ask => rw [nxt_ask] at this; exact g.2 y this
  | inn =>
    rw [nxt_inn, List.mem_append, List.mem_singleton] at this
    rcases this with m | m
    · exact g.2 y m
    · rw [m]; exact k6
  | out =>
    rw [nxt_out, List.mem_filter] at this
    exact g.2 y this.1
theorem noL_enc : ∀ t : T, noL (enc t) = true
  | .nil => rfl
  | .node l k r => by
    show (noL (enc l) && (noL (.int k) && (noL (enc r) && true))) = true
    rw [noL_enc l, noL_enc r]
    rfl
theorem runGo_ok (ru : Rule) (hr : RuleOk ru) {n : Nat} (hn : 20 ≤ n) : ∀ (ds : List Deed) (t : T), Good t → Legal t.keys ds → runGo (callD n) (encRule ru) (encs ds) (enc t) = some ((shps ru ds t).map enc, (csts ru ds t).map PyData.int)
  | [], _, _, _ => rfl
  | d :: r, t, g, lg => by
    have z := size6 g.1 g.2
    have p := poss_of lg.2.1
    obtain ⟨g2, k2⟩ := good_next hr g lg.1 lg.2.1
    have e1 := v_cost_of t d.1 d.2 (n := n) (by omega)
    have e2 := v_behind ru hr t d.1 d.2 (n := n) (by omega) (by omega) g.1 p g.2 lg.1
    have ih := runGo_ok ru hr hn r (behindT ru t d.1 d.2) g2 (legal_congr r _ _ (fun y => (k2 y).symm) lg.2.2)
    show runGo _ _ (encDeed d.1 d.2 :: encs r) _ = _
    rw [runGo, e1, Option.bind_some, e2, Option.bind_some, noL_enc, ih]
    rfl
theorem k_run {n : Nat} {a b : D} : callD (n + 1) .run [a, b] = runD (callD n) a b := rfl
theorem k_keys_along {n : Nat} {a : D} : callD (n + 1) .keys_along [a] = keysD a := rfl
theorem v_run (ru : Rule) (hr : RuleOk ru) (ds : List Deed) (hl : ds.length ≤ 40) (lg : Legal [] ds) {n : Nat} (hn : 21 ≤ n) : callD n .run [encRule ru, .list (encs ds)] = some (.tuple [.list ((shps ru ds .nil).map enc), .list ((csts ru ds .nil).map PyData.int)]) := by
  obtain ⟨m, rfl, hm⟩ := up (c := 20) hn
  have := runGo_ok ru hr hm ds .nil ⟨trivial, fun _ h => absurd h not_mem_nil⟩ lg
  rw [k_run, runD, asL_l, Option.bind_some, if_pos (by unfold encs; rw [List.length_map]; omega)]
  rw [enc_nil] at this
  rw [this]
  rfl
theorem deedsD_encs : ∀ ds : List Deed, deedsD (encs ds) = some (ds.map fun d => (d.1.str, d.2))
  | [] => rfl
  | d :: r => by
    show (deedsD (encs r)).bind _ = _
    rw [deedsD_encs r]
    rfl
theorem keysGo_ok : ∀ (ds : List Deed) (here : List Int), Legal here ds → ∃ ls, keysGo (ds.map fun d => (d.1.str, d.2)) here = some ls
  | [], _, _ => ⟨[], rfl⟩
  | d :: r, here, lg => by
    obtain ⟨ls, e⟩ := keysGo_ok r _ lg.2.2
    refine ⟨nxt here d.1 d.2 :: ls, ?_⟩
    have h : (decide (d.2 ∈ here) != decide (d.1.str ≠ "in")) = false := by
      have hs : (d.1.str ≠ "in") ↔ d.1 ≠ .inn := by
        cases d.1 with
        | ask => exact ⟨fun _ => W.noConfusion, fun _ => by decide +kernel⟩
        | inn => exact ⟨fun h => absurd rfl h, fun h => absurd rfl h⟩
        | out => exact ⟨fun _ => W.noConfusion, fun _ => by decide +kernel⟩
      have : decide (d.2 ∈ here) = decide (d.1.str ≠ "in") := decide_eq_decide.mpr (lg.2.1.trans hs.symm)
      rw [this]
      simp
    rw [List.map_cons, keysGo, h, if_neg Bool.false_ne_true]
    show (keysGo _ (nxt here d.1 d.2)).bind _ = _
    rw [e]
    rfl
theorem v_keys_along (ds : List Deed) (hl : ds.length ≤ 40) (lg : Legal [] ds) {n : Nat} (hn : 1 ≤ n) : ∃ ls, callD n .keys_along [.list (encs ds)] = some (.list ls) := by
  obtain ⟨m, rfl, hm⟩ := up (c := 0) hn
  obtain ⟨ls, e⟩ := keysGo_ok ds [] lg
  refine ⟨ls.map fun l => .list (l.map PyData.int), ?_⟩
  rw [k_keys_along, keysD, asL_l, Option.bind_some, if_pos (by unfold encs; rw [List.length_map]; omega), deedsD_encs, Option.bind_some, e]
theorem v_is_row (ds : List Deed) (hl : ds.length ≤ 40) (lg : Legal [] ds) {n : Nat} (hn : 4 ≤ n) : callD n .is_row [.list (encs ds)] = some (.bool true) := by
  obtain ⟨m, rfl, hm⟩ := up (c := 3) hn
  have el : (encs ds).length = ds.length := List.length_map _
  have e1 := e_allComp (M := ⟨callD m, lvD m⟩) (l := true) (i := 1) (src := .var 0) (elt := .call .is_deed (.cons (.var 1) .nil)) (ρ := [some (.list (encs ds)), none]) (ds := encs ds) rfl (by omega) (fun d hd => by
    obtain ⟨c, hc, rfl⟩ := List.mem_map.mp hd
    simp [v_is_deed c.1 c.2 (n := m) (by omega) (legal_k6 ds _ lg c hc)])
  obtain ⟨ls, e2⟩ := v_keys_along ds hl lg (n := m) (by omega)
  have e3 : PyData.eqv (.list ls) .none = false := rfl
  have e4 : ¬ (40 : Int) < (encs ds).length := by omega
  refine k_is_row ?_
  simp [c_is_row, e1, e2, e3, e4]
theorem v_need_row (ds : List Deed) (hl : ds.length ≤ 40) (lg : Legal [] ds) {n : Nat} (hn : 5 ≤ n) : callD n .need_row [.list (encs ds)] = some .none := by
  obtain ⟨m, rfl, hm⟩ := up (c := 4) hn
  refine k_need_row ?_
  simp [c_need_row, v_is_row ds hl lg hm]
theorem v_need_run (ru : Rule) (hr : RuleOk ru) (ds : List Deed) (hl : ds.length ≤ 40) (lg : Legal [] ds) {n : Nat} (hn : 6 ≤ n) : callD n .need_run [encRule ru, .list (encs ds)] = some .none := by
  obtain ⟨m, rfl, hm⟩ := up (c := 5) hn
  refine k_need_run ?_
  simp [c_need_run, v_need_row ds hl lg hm, v_need_rule ru hr (n := m) (by omega)]
theorem v_shapes_along (ru : Rule) (hr : RuleOk ru) (ds : List Deed) (hl : ds.length ≤ 40) (lg : Legal [] ds) {n : Nat} (hn : 22 ≤ n) : callD n .shapes_along [encRule ru, .list (encs ds)] = some (.list ((shps ru ds .nil).map enc)) := by
  obtain ⟨m, rfl, hm⟩ := up (c := 21) hn
  refine k_shapes_along ?_
  simp [c_shapes_along, v_need_run ru hr ds hl lg (n := m) (by omega), v_run ru hr ds hl lg hm]
theorem v_costs_along (ru : Rule) (hr : RuleOk ru) (ds : List Deed) (hl : ds.length ≤ 40) (lg : Legal [] ds) {n : Nat} (hn : 22 ≤ n) : callD n .costs_along [encRule ru, .list (encs ds)] = some (.list ((csts ru ds .nil).map PyData.int)) := by
  obtain ⟨m, rfl, hm⟩ := up (c := 21) hn
  refine k_costs_along ?_
  simp [c_costs_along, v_need_run ru hr ds hl lg (n := m) (by omega), v_run ru hr ds hl lg hm]
end TT
set_option Elab.async false
set_option linter.all false
set_option maxRecDepth 100000
set_option maxHeartbeats 0
/-! What is read off the heap behind the top, by names. -/
namespace TT
open PySem PySem.Spec PyProof.Rows L2
def dOf (x : Str) (i : Nat) : He.DefD := ⟨(x, none), x, x, defArgs (topS i), defBody (topS i), defScope (topS i), [], []⟩
def dfs0 : List He.DefD := [dOf "is_number" 8, dOf "is_between" 9, dOf "is_shape" 10, dOf "need_shape" 11, dOf "keys_of" 12, dOf "size_of" 13, dOf "height_of" 14, dOf "way_to" 15, dOf "left_up" 17, dOf "right_up" 18, dOf "turned" 19, dOf "with_leaf" 21, dOf "least" 22, dOf "greatest" 23]
def dfs1 : List He.DefD := [dOf "without" 24, dOf "once_up" 25, dOf "to_top" 26, dOf "way_down" 27, dOf "splayed" 28, dOf "without_splayed" 29, dOf "weight_of" 31, dOf "set_right" 32, dOf "is_greater" 33, dOf "is_inner" 34, dOf "put_right" 35, dOf "take_right" 36, dOf "is_even" 37, dOf "built" 38]
def dfs2 : List He.DefD := [dOf "rebuilt" 39, dOf "put_rebuilt" 40, dOf "take_rebuilt" 41, dOf "rank_of" 43, dOf "ranked" 44, dOf "bare" 45, dOf "skew" 46, dOf "split" 47, dOf "put_in" 48, dOf "with_right" 49, dOf "set_back" 50, dOf "take_out" 51, dOf "is_rule" 54, dOf "need_rule" 55]
def dfs3 : List He.DefD := [dOf "by_order" 56, dOf "with_key" 57, dOf "without_key" 58, dOf "moved" 59, dOf "behind" 60, dOf "cost_of" 61, dOf "is_deed" 62, dOf "is_possible" 63, dOf "need_deed" 64, dOf "cost" 65, dOf "keys_along" 68, dOf "is_row" 69, dOf "need_row" 70, dOf "run" 71]
def dfs4 : List He.DefD := [dOf "need_run" 72, dOf "shapes_along" 73, dOf "costs_along" 74, dOf "_law_draw" 76, dOf "_law_pick" 77, dOf "_law_keys" 78, dOf "_law_tall" 79, dOf "_law_path" 80, dOf "_law_plant" 82, dOf "_law_order" 83, dOf "_law_turn" 84, dOf "_law_leaf" 85, dOf "_law_part" 86, dOf "_law_put" 87]
def dfs5 : List He.DefD := [dOf "_law_out" 88, dOf "_law_heavy" 89, dOf "_law_inner" 90, dOf "_law_fixed" 91, dOf "_law_set" 92, dOf "_law_even" 93, dOf "_law_is_even" 94, dOf "_law_again" 95, dOf "_law_ranked" 96, dOf "_law_bare" 97, dOf "_law_skew" 98, dOf "_law_split" 99, dOf "_law_level_in" 100, dOf "_law_back" 101]
def dfs6 : List He.DefD := [dOf "_law_level_out" 102, dOf "_law_splay" 103, dOf "_law_moved" 104, dOf "_law_splay_out" 105, dOf "_law_in" 106, dOf "_law_after" 107, dOf "_law_price" 108, dOf "_law_ranks" 109, dOf "_law_rule" 110, dOf "_law_deed" 111, dOf "_law_row" 112, dOf "law" 113]
def dfs : List He.DefD := dfs0 ++ dfs1 ++ dfs2 ++ dfs3 ++ dfs4 ++ dfs5 ++ dfs6
def fas0 : List He.Fa := [.glo "is_number", .glo "is_between", .glo "is_shape", .glo "need_shape", .glo "keys_of", .glo "size_of", .glo "height_of", .glo "way_to", .glo "left_up", .glo "right_up", .glo "turned", .glo "with_leaf", .glo "least", .glo "greatest"]
def fas1 : List He.Fa := [.glo "without", .glo "once_up", .glo "to_top", .glo "way_down", .glo "splayed", .glo "without_splayed", .glo "weight_of", .glo "set_right", .glo "is_greater", .glo "is_inner", .glo "put_right", .glo "take_right", .glo "is_even", .glo "built"]
def fas2 : List He.Fa := [.glo "rebuilt", .glo "put_rebuilt", .glo "take_rebuilt", .glo "rank_of", .glo "ranked", .glo "bare", .glo "skew", .glo "split", .glo "put_in", .glo "with_right", .glo "set_back", .glo "take_out", .glo "is_rule", .glo "need_rule"]
def fas3 : List He.Fa := [.glo "by_order", .glo "with_key", .glo "without_key", .glo "moved", .glo "behind", .glo "cost_of", .glo "is_deed", .glo "is_possible", .glo "need_deed", .glo "cost", .glo "keys_along", .glo "is_row", .glo "need_row", .glo "run"]
def fas4 : List He.Fa := [.glo "need_run", .glo "shapes_along", .glo "costs_along", .glo "_law_draw", .glo "_law_pick", .glo "_law_keys", .glo "_law_tall", .glo "_law_path", .glo "_law_plant", .glo "_law_order", .glo "_law_turn", .glo "_law_leaf", .glo "_law_part", .glo "_law_put"]
def fas5 : List He.Fa := [.glo "_law_out", .glo "_law_heavy", .glo "_law_inner", .glo "_law_fixed", .glo "_law_set", .glo "_law_even", .glo "_law_is_even", .glo "_law_again", .glo "_law_ranked", .glo "_law_bare", .glo "_law_skew", .glo "_law_split", .glo "_law_level_in", .glo "_law_back"]
def fas6 : List He.Fa := [.glo "_law_level_out", .glo "_law_splay", .glo "_law_moved", .glo "_law_splay_out", .glo "_law_in", .glo "_law_after", .glo "_law_price", .glo "_law_ranks", .glo "_law_rule", .glo "_law_deed", .glo "_law_row", .glo "law", .free "len", .free "all"]
def fas7 : List He.Fa := [.free "isinstance", .free "max", .free "min", .free "int", .free "bool", .free "str", .free "tuple", .free "list", .free "sorted", .free "range", .int "MOST" 6, .int "DEEDS" 40, .glo "FAMILY"]
def fas : List He.Fa := fas0 ++ fas1 ++ fas2 ++ fas3 ++ fas4 ++ fas5 ++ fas6 ++ fas7
def famB (K : PySem.W.Frag) : Bool := He.tupB K "FAMILY" [.str "heights", .str "levels", .str "once", .str "plain", .str "rebuilt", .str "splayed", .str "top", .str "weights"]
end TT
set_option Elab.async false
set_option linter.all false
set_option maxRecDepth 100000
set_option maxHeartbeats 4000000
/-! Every pure def keeps its promise. -/
namespace TT
open PySem PySem.Spec PyProof.Rows L2
def dix : F → Nat
  | .is_number => 0
  | .is_between => 1
  | .is_shape => 2
  | .need_shape => 3
  | .keys_of => 4
  | .size_of => 5
  | .height_of => 6
  | .way_to => 7
  | .left_up => 8
  | .right_up => 9
  | .turned => 10
  | .with_leaf => 11
  | .least => 12
  | .greatest => 13
  | .without => 14
  | .once_up => 15
  | .to_top => 16
  | .way_down => 17
  | .splayed => 18
  | .without_splayed => 19
  | .weight_of => 20
  | .set_right => 21
  | .is_greater => 22
  | .is_inner => 23
  | .put_right => 24
  | .take_right => 25
  | .is_even => 26
  | .built => 27
  | .rebuilt => 28
  | .put_rebuilt => 29
  | .take_rebuilt => 30
  | .rank_of => 31
  | .ranked => 32
  | .bare => 33
  | .skew => 34
  | .split => 35
  | .put_in => 36
  | .with_right => 37
  | .set_back => 38
  | .take_out => 39
  | .is_rule => 40
  | .need_rule => 41
  | .by_order => 42
  | .with_key => 43
  | .without_key => 44
  | .moved => 45
  | .behind => 46
  | .cost_of => 47
  | .is_deed => 48
  | .is_possible => 49
  | .need_deed => 50
  | .cost => 51
  | .keys_along => 52
  | .is_row => 53
  | .need_row => 54
  | .run => 55
  | .need_run => 56
  | .shapes_along => 57
  | .costs_along => 58
  | ._law_keys => 61
  | ._law_tall => 62
  | ._law_path => 63
  | ._law_plant => 64
  | ._law_order => 65
  | ._law_turn => 66
  | ._law_leaf => 67
  | ._law_part => 68
  | ._law_put => 69
  | ._law_out => 70
  | ._law_heavy => 71
  | ._law_inner => 72
  | ._law_fixed => 73
  | ._law_set => 74
  | ._law_even => 75
  | ._law_is_even => 76
  | ._law_again => 77
  | ._law_splay => 85
  | ._law_moved => 86
  | ._law_splay_out => 87
  | ._law_in => 88
  | ._law_after => 89
  | ._law_price => 90
theorem dfs_at (f : F) : dfs[dix f]? = some (dOf (fname f) (fix f)) := by cases f <;> rfl
theorem fas_at (f : F) : fas[dix f]? = some (.glo (fname f)) := by cases f <;> rfl
/-- what stands behind the top -/
structure Tab (K : PySem.W.Frag) (mg : Str → Option Value) : Prop where
  d : He.SaysD fas dfs K
  f : famB K = true
  kin : ∃ h : Heap, K.In h ∧ h.Ns mainGlobals mg
abbrev FDef (K : PySem.W.Frag) (x : Str) (i : Nat) (fd : FuncData) : Prop := FunD K x x (defArgs (topS i)) (defBody (topS i)) (defScope (topS i)) [] [] (He.ga K x) fd
section
variable {K : PySem.W.Frag} {mg : Str → Option Value} (T : Tab K mg)
include T
theorem Tab.def_ (j : Nat) {x : Str} {i : Nat} (h : dfs[j]? = some (dOf x i)) : ∃ fd, FDef K x i fd := T.d.def_ j h
theorem Tab.glo (j : Nat) {x : Str} (h : fas[j]? = some (.glo x)) : mg x = some (.ref (He.ga K x)) := by
  obtain ⟨h0, X, G⟩ := T.kin
  exact He.glo_ok X G (T.d.fact j h)
theorem Tab.free (j : Nat) {x : Str} (h : fas[j]? = some (.free x)) : mg x = none := by
  obtain ⟨h0, X, G⟩ := T.kin
  exact He.free_ok X G (T.d.fact j h)
theorem Tab.int (j : Nat) {x : Str} {i : Int} (h : fas[j]? = some (.int x i)) : ∃ t, mg x = some (.int i t) := by
  obtain ⟨h0, X, G⟩ := T.kin
  exact He.int_ok X G (T.d.fact j h)
theorem Tab.blt : ∀ x ∈ bltNames, mg x = none := by
  intro x h
  simp only [bltNames, List.mem_cons, List.not_mem_nil, or_false] at h
  rcases h with rfl | rfl | rfl | rfl | rfl | rfl | rfl | rfl | rfl | rfl | rfl | rfl
  · exact T.free 96 rfl
  · exact T.free 97 rfl
  · exact T.free 98 rfl
  · exact T.free 99 rfl
  · exact T.free 100 rfl
  · exact T.free 101 rfl
  · exact T.free 102 rfl
  · exact T.free 103 rfl
  · exact T.free 104 rfl
  · exact T.free 105 rfl
  · exact T.free 106 rfl
  · exact T.free 107 rfl
theorem Tab.gl (g : G) : ∃ v u, mg (gname g) = some u ∧ RelV v u ∧ ∀ H, Rp K H v (gval g) := by
  cases g with
  | MOST =>
    obtain ⟨t, h⟩ := T.int 108 (x := "MOST") (i := 6) rfl
    exact ⟨.int 6, _, h, ⟨t, rfl⟩, fun H => .int 6⟩
  | DEEDS =>
    obtain ⟨t, h⟩ := T.int 109 (x := "DEEDS") (i := 40) rfl
    exact ⟨.int 40, _, h, ⟨t, rfl⟩, fun H => .int 40⟩
  | FAMILY =>
    exact ⟨.ref (He.ga K "FAMILY"), _, T.glo 110 rfl, rfl, fun H => .tup (He.tupB_ok T.f H) (.cons (.str _) (.cons (.str _) (.cons (.str _) (.cons (.str _) (.cons (.str _) (.cons (.str _) (.cons (.str _) (.cons (.str _) .nil))))))))⟩
end
/-! ### scopes, arguments -/
def scopeB (N ps : List Str) (c : Scope) : Bool :=
  (decide (c.kind = .function) && (!c.isCoroutine && (!c.isGenerator && decide N.Nodup))) && (decide (N.take ps.length = ps) && (ps.all (fun z => decide (c.names.lookup z = some .local ∨ c.names.lookup z = some .cell)) && c.names.all (fun q => decide (q.2 ≠ .free))))
theorem scopeB_ok {N ps : List Str} {c : Scope} (h : scopeB N ps c = true) : FnScope N ps c := by
  simp only [scopeB, Bool.and_eq_true, Bool.not_eq_true', decide_eq_true_eq, List.all_eq_true] at h
  obtain ⟨⟨h1, h2, h3, h4⟩, h5, h6, h7⟩ := h
  exact ⟨h1, h2, h3, h4, h5, h6, h7⟩
theorem scope_all (f : F) (hs : semB f = false) : scopeB (nms f) (fps f) (defScope (topS (fix f))) = true := by cases f <;> first | (cases hs; done) | decide +kernel
theorem fpn_eq (f : F) : fpn f = (fps f).length := by cases f <;> rfl
theorem bind_all (f : F) (kV doc pm : Value) (an : Option Addr) (cdv ct : Value) (us : List Value) (hl : us.length = (fps f).length) : bindArgs (PySem.W.fnOf (fname f) (fname f) (defArgs (topS (fix f))) (defBody (topS (fix f))) (defScope (topS (fix f))) .none kV doc pm an cdv ct) ⟨us, []⟩ = pure ((fps f).zip us) := by
  rcases us with _ | ⟨a, _ | ⟨b, _ | ⟨c, _ | ⟨d, us⟩⟩⟩⟩
  · have h : (fps f).length = 0 := hl.symm
    cases f <;> exact absurd h (by decide)
  · have h : (fps f).length = 1 := hl.symm
    cases f <;> first | exact absurd h (by decide) | rfl
  · have h : (fps f).length = 2 := hl.symm
    cases f <;> first | exact absurd h (by decide) | rfl
  · have h : (fps f).length = 3 := hl.symm
    cases f <;> first | exact absurd h (by decide) | rfl
  · exfalso
    have : (fps f).length ≤ 3 := by cases f <;> decide
    simp only [List.length_cons] at hl
    omega
/-! ### the start -/
theorem getE_get : ∀ {ρ : Rho} {i : Nat} {d : D}, getE ρ i = some d → ρ[i]? = some (some d)
  | [], _, _, h => nomatch h
  | a :: r, 0, d, h => by
    have h : a = some d := h
    rw [h]
    rfl
  | a :: r, i + 1, d, h => by
    have := getE_get (ρ := r) (i := i) h
    simpa using this
theorem env_start {K : PySem.W.Frag} {H : Hp} {N : List Str} {vs : List V} {ds : List D} (r : RpA K H vs ds) (h : ds.length ≤ N.length) : EnvR K H (L2.start N vs) (ds.map some ++ List.replicate (N.length - ds.length) none) := by
  have hl := r.length
  refine ⟨by simp [L2.start, hl], fun i d e => ?_⟩
  have e := getE_get e
  by_cases hi : i < ds.length
  · rw [List.getElem?_append_left (by simpa using hi), List.getElem?_map] at e
    cases q : ds[i]? with
    | none => rw [q] at e; cases e
    | some d' =>
      rw [q] at e
      cases e
      obtain ⟨v, h1, h2⟩ := r.get q
      refine ⟨v, ?_, h2⟩
      unfold L2.start
      rw [List.getElem?_append_left (by rw [List.length_map]; omega), List.getElem?_map, h1]
      rfl
  · rw [List.getElem?_append_right (by simpa using hi), List.getElem?_replicate] at e
    split at e <;> cases e
/-! ### promises -/
section
variable {P : Program} {w : World} {K : PySem.W.Frag} {mg : Str → Option Value} {base : Heap}
structure FAt (P : Program) (w : World) (K : PySem.W.Frag) (mg : Str → Option Value) (base : Heap) (n : Nat) (f : F) : Prop where
  ex : ∃ fd, Binds K fd (fps f) [] ∧ PySem.W.keepIn K (.ref (He.ga K (fname f))) = true ∧ FnOk P w K mg base CX0 n (He.ga K (fname f)) fd (fps f) (spD K (callD n f))
structure LvAt (P : Program) (w : World) (K : PySem.W.Frag) (mg : Str → Option Value) (base : Heap) (k : Nat) (y : Str) (g : D → D → Option D) : Prop where
  ex : ∃ (fr fl fb : Addr) (dr dl db : FuncData) (pr pl pb : List Str) (sr sl sb : Sp),
    (mg "_law_ranked" = some (.ref fr) ∧ PySem.W.keepIn K (.ref fr) = true ∧ Binds K dr pr [] ∧ FnOk P w K mg base CX0 k fr dr pr sr) ∧
    (mg y = some (.ref fl) ∧ PySem.W.keepIn K (.ref fl) = true ∧ Binds K dl pl [] ∧ FnOk P w K mg base CX0 k fl dl pl sl) ∧
    (mg "_law_bare" = some (.ref fb) ∧ PySem.W.keepIn K (.ref fb) = true ∧ Binds K db pb [] ∧ FnOk P w K mg base CX0 k fb db pb sb) ∧
    ∀ (a b d : D) (v : V) (H : Hp) (Q Qr : VK), Rp K H v a → g a b = some d → QOk K H d Q →
      (∀ v1 H1, Same H H1 → (∀ u H2, Same H1 H2 → Rp K H2 u b → sl [v1, u] H2 (fun v2 H3 => sb [v2] H3 Q E0) E0) → Qr v1 H1) → sr [v] H Qr E0
def spNo : Sp := fun _ _ _ _ => False
theorem fn_no {k : Nat} {f : Addr} {fd : FuncData} {ps : List Str} : FnOk P w K mg base CX0 k f fd ps spNo := ⟨fun _ _ _ _ h => h.elim, fun _ _ _ _ _ _ _ _ _ _ _ _ _ h => h.elim⟩
def lvName (b : Bool) : Str := if b then "_law_level_in" else "_law_level_out"
theorem bind1 {x : Str} {i : Nat} {fd : FuncData} (F : FDef K x i fd) {p : Str} (h : ∀ (kV doc pm : Value) (an : Option Addr) (cdv ct : Value) (a : Value), bindArgs (PySem.W.fnOf x x (defArgs (topS i)) (defBody (topS i)) (defScope (topS i)) .none kV doc pm an cdv ct) ⟨[a], []⟩ = pure [(p, a)]) : Binds K fd [p] [] :=
  F.bindsN fun kV doc pm an cdv ct us hl => match us, hl with | [a], _ => h kV doc pm an cdv ct a
theorem bind2 {x : Str} {i : Nat} {fd : FuncData} (F : FDef K x i fd) {p q : Str} (h : ∀ (kV doc pm : Value) (an : Option Addr) (cdv ct : Value) (a b : Value), bindArgs (PySem.W.fnOf x x (defArgs (topS i)) (defBody (topS i)) (defScope (topS i)) .none kV doc pm an cdv ct) ⟨[a, b], []⟩ = pure [(p, a), (q, b)]) : Binds K fd [p, q] [] :=
  F.bindsN fun kV doc pm an cdv ct us hl => match us, hl with | [a, b], _ => h kV doc pm an cdv ct a b
theorem bind3 {x : Str} {i : Nat} {fd : FuncData} (F : FDef K x i fd) {p q r : Str} (h : ∀ (kV doc pm : Value) (an : Option Addr) (cdv ct : Value) (a b c : Value), bindArgs (PySem.W.fnOf x x (defArgs (topS i)) (defBody (topS i)) (defScope (topS i)) .none kV doc pm an cdv ct) ⟨[a, b, c], []⟩ = pure [(p, a), (q, b), (r, c)]) : Binds K fd [p, q, r] [] :=
  F.bindsN fun kV doc pm an cdv ct us hl => match us, hl with | [a, b, c], _ => h kV doc pm an cdv ct a b c
theorem bind4 {x : Str} {i : Nat} {fd : FuncData} (F : FDef K x i fd) {p q r t : Str} (h : ∀ (kV doc pm : Value) (an : Option Addr) (cdv ct : Value) (a b c d : Value), bindArgs (PySem.W.fnOf x x (defArgs (topS i)) (defBody (topS i)) (defScope (topS i)) .none kV doc pm an cdv ct) ⟨[a, b, c, d], []⟩ = pure [(p, a), (q, b), (r, c), (t, d)]) : Binds K fd [p, q, r, t] [] :=
  F.bindsN fun kV doc pm an cdv ct us hl => match us, hl with | [a, b, c, d], _ => h kV doc pm an cdv ct a b c d
theorem Tab.mgf (T : Tab K mg) (f : F) : mg (fname f) = some (.ref (He.ga K (fname f))) := T.glo _ (fas_at f)
theorem lv_low (T : Tab K mg) {n : Nat} (hn : n < 20) (b : Bool) : LvAt P w K mg base n (lvName b) (lvD n b) := by
  obtain ⟨d1, F1⟩ := T.def_ 78 (x := "_law_ranked") (i := 96) rfl
  obtain ⟨d3, F3⟩ := T.def_ 79 (x := "_law_bare") (i := 97) rfl
  have hno : ∀ x y, lvD n b x y = none := fun x y => by
    unfold lvD
    rw [if_neg (by omega)]
  cases b with
  | true =>
    obtain ⟨d2, F2⟩ := T.def_ 82 (x := "_law_level_in") (i := 100) rfl
    exact ⟨_, _, _, d1, d2, d3, ["_law_shape"], ["_law_part_here", "_law_key"], ["_law_part_here"], spNo, spNo, spNo, ⟨T.glo 78 rfl, F1.kp, bind1 F1 fun _ _ _ _ _ _ _ => rfl, fn_no⟩, ⟨T.glo 82 rfl, F2.kp, bind2 F2 fun _ _ _ _ _ _ _ _ => rfl, fn_no⟩, ⟨T.glo 79 rfl, F3.kp, bind1 F3 fun _ _ _ _ _ _ _ => rfl, fn_no⟩,
      fun x y d v H Q Qr _ h => by rw [hno] at h; cases h⟩
  | false =>
    obtain ⟨d2, F2⟩ := T.def_ 84 (x := "_law_level_out") (i := 102) rfl
    exact ⟨_, _, _, d1, d2, d3, ["_law_shape"], ["_law_part_here", "_law_key"], ["_law_part_here"], spNo, spNo, spNo, ⟨T.glo 78 rfl, F1.kp, bind1 F1 fun _ _ _ _ _ _ _ => rfl, fn_no⟩, ⟨T.glo 84 rfl, F2.kp, bind2 F2 fun _ _ _ _ _ _ _ _ => rfl, fn_no⟩, ⟨T.glo 79 rfl, F3.kp, bind1 F3 fun _ _ _ _ _ _ _ => rfl, fn_no⟩,
      fun x y d v H Q Qr _ h => by rw [hno] at h; cases h⟩
theorem fat_zero (T : Tab K mg) (f : F) : FAt P w K mg base 0 f := by
  obtain ⟨fd, F⟩ := T.def_ _ (dfs_at f)
  refine ⟨fd, F.bindsN (bind_all f), F.kp, ⟨fun vs H Q E h => ?_, fun A outer s H args us vs Q E _ _ _ _ h => ?_⟩⟩
  · obtain ⟨ds, d, _, h, _⟩ := h
    cases h
  · obtain ⟨ds, d, _, h, _⟩ := h
    cases h
theorem callD_some {n : Nat} {f : F} {ds : List D} {d : D} (h : callD (n + 1) f ds = some d) : ds.length = fpn f := by
  rw [callD] at h
  split at h
  · assumption
  · cases h
theorem callD_run {n : Nat} {f : F} {ds : List D} {d : D} (hs : semB f = false) (h : callD (n + 1) f ds = some d) : ∃ r, evS ⟨callD n, lvD n⟩ (code f) (startE f ds) = some r ∧ (match r with | .rt d => some d | .nx _ => some .none) = some d := by
  have hl := callD_some h
  rw [callD, if_pos hl, if_neg (by rw [hs]; exact Bool.false_ne_true)] at h
  obtain ⟨r, h1, h2⟩ := bind_some h
  exact ⟨r, h1, h2⟩
theorem len_spD {n : Nat} {f : F} (vs : List V) (H : Hp) (Q : VK) (E : XK) (h : spD K (callD (n + 1) f) vs H Q E) : vs.length = (fps f).length := by
  obtain ⟨ds, d, r, h, _⟩ := h
  rw [r.length, callD_some h, fpn_eq]
theorem nms_le (f : F) (hs : semB f = false) : fpn f ≤ (nms f).length := by cases f <;> first | (cases hs; done) | decide
theorem fat_succ (T : Tab K mg) {n : Nat} (ih : ∀ f, FAt P w K mg base n f) (lv : ∀ b, LvAt P w K mg base n (lvName b) (lvD n b)) (f : F) (hs : semB f = false) (hg : chkS (nms f) (defScope (topS (fix f))) (code f) (defBody (topS (fix f))) = true) : FAt P w K mg base (n + 1) f := by
  obtain ⟨fd, F⟩ := T.def_ _ (dfs_at f)
  have S := scopeB_ok (scope_all f hs)
  refine ⟨fd, F.bindsN (bind_all f), F.kp, F.ok S (len_spD) (fun cdv A outer s H vs Q E hr h => ?_)⟩
  obtain ⟨ds, d, r, h, q⟩ := h
  obtain ⟨r1, h1, h2⟩ := callD_run hs h
  have hl := callD_some h
  have ok : Sok ⟨callD n, lvD n⟩ n (nms f) (defScope (topS (fix f))) (cxOf CX0 P w K mg base (nms f) (fname f) (defScope (topS (fix f))) (He.ga K (fname f)) cdv A outer s H E).nox :=
    { nn := rfl, nd := S.nd, esc := rfl, calm := rfl, room := hr, blt := T.blt,
      fns := fun g => by
        obtain ⟨gd, h1, h2, h3⟩ := (ih g).ex
        exact ⟨_, gd, T.mgf g, h2, h1, h3⟩
      gl := T.gl, lv := fun b => ⟨(lv b).ex⟩, fn := fun _ => rfl, pas := PassesOwn.never }
  obtain ⟨t, p, z⟩ := dsS ⟨callD n, lvD n⟩ n _ _ _ ok (by show (if (defScope (topS (fix f))).kind.isAnnotationScope = true then _ else (defScope (topS (fix f))).kind) = _; rw [S.kind]; rfl) (code f) _ hg
  refine ⟨t, p.nox, z _ _ H _ r1 (env_start r (by rw [hl]; exact nms_le f hs)) h1 ?_⟩
  cases r1 with
  | rt d' =>
    cases h2
    exact q
  | nx ρ' =>
    cases h2
    exact fun σ H' s' _ => q .non H' s' .non
theorem good_of {f : F} (h : good f = true) (hs : semB f = false) : chkS (nms f) (defScope (topS (fix f))) (code f) (defBody (topS (fix f))) = true := by
  have e : semC f = semB f := by cases f <;> rfl
  unfold good at h
  rw [e, hs, Bool.false_or] at h
  exact h
theorem good_all (f : F) : good f = true := by
  cases f
  · exact g_is_number
  · exact g_is_between
  · exact g_is_shape
  · exact g_need_shape
  · exact g_keys_of
  · exact g_size_of
  · exact g_height_of
  · exact g_way_to
  · exact g_left_up
  · exact g_right_up
  · exact g_turned
  · exact g_with_leaf
  · exact g_least
  · exact g_greatest
  · exact g_without
  · exact g_once_up
  · exact g_to_top
  · exact g_way_down
  · exact g_splayed
  · exact g_without_splayed
  · exact g_weight_of
  · exact g_set_right
  · exact g_is_greater
  · exact g_is_inner
  · exact g_put_right
  · exact g_take_right
  · exact g_is_even
  · exact g_built
  · exact g_rebuilt
  · exact g_put_rebuilt
  · exact g_take_rebuilt
  · exact g_rank_of
  · exact g_ranked
  · exact g_bare
  · exact g_skew
  · exact g_split
  · exact g_put_in
  · exact g_with_right
  · exact g_set_back
  · exact g_take_out
  · exact g_is_rule
  · exact g_need_rule
  · exact g_by_order
  · exact g_with_key
  · exact g_without_key
  · exact g_moved
  · exact g_behind
  · exact g_cost_of
  · exact g_is_deed
  · exact g_is_possible
  · exact g_need_deed
  · exact g_cost
  · exact g_keys_along
  · exact g_is_row
  · exact g_need_row
  · exact g_run
  · exact g_need_run
  · exact g_shapes_along
  · exact g_costs_along
  · exact g__law_keys
  · exact g__law_tall
  · exact g__law_path
  · exact g__law_plant
  · exact g__law_order
  · exact g__law_turn
  · exact g__law_leaf
  · exact g__law_part
  · exact g__law_put
  · exact g__law_out
  · exact g__law_heavy
  · exact g__law_inner
  · exact g__law_fixed
  · exact g__law_set
  · exact g__law_even
  · exact g__law_is_even
  · exact g__law_again
  · exact g__law_splay
  · exact g__law_moved
  · exact g__law_splay_out
  · exact g__law_in
  · exact g__law_after
  · exact g__law_price
theorem all_upto (T : Tab K mg) (KA : ∀ n, FAt P w K mg base (n + 1) .keys_along) (RN : ∀ n, (∀ f, FAt P w K mg base n f) → FAt P w K mg base (n + 1) .run)
    (LV : ∀ n, 20 ≤ n → (∀ j, j ≤ n → ∀ f, FAt P w K mg base j f) → ∀ b, LvAt P w K mg base n (lvName b) (lvD n b)) : ∀ n, ∀ j, j ≤ n → ∀ f, FAt P w K mg base j f
  | 0, j, hj, f => by
    have : j = 0 := by omega
    subst this
    exact fat_zero T f
  | n + 1, j, hj, f => by
    have ih := all_upto T KA RN LV n
    by_cases hj2 : j ≤ n
    · exact ih j hj2 f
    · have : j = n + 1 := by omega
      subst this
      have lv : ∀ b, LvAt P w K mg base n (lvName b) (lvD n b) := fun b => by
        by_cases h : 20 ≤ n
        · exact LV n h ih b
        · exact lv_low T (by omega) b
      cases hs : semB f with
      | false => exact fat_succ T (ih n (Nat.le_refl _)) lv f hs (good_of (good_all f) hs)
      | true =>
        cases f <;> first | exact KA n | exact RN n (ih n (Nat.le_refl _)) | (cases hs; done)
end
end TT
set_option Elab.async false
set_option linter.all false
set_option maxRecDepth 100000
set_option maxHeartbeats 4000000
/-! Tools for the defs that change lists. -/
namespace TT
open PySem PySem.Spec PyProof.Rows L2
/-! ### a list is changed: what stays -/
theorem sqT_upd {K : PySem.W.Frag} {H : Hp} {a p : Addr} {o : HO} {xs ys : List V} (h : H a = some (.lst xs)) (q : SqT K H p ys) : SqT K (upd H a o) p ys := by
  have ne : ∀ {u : HO}, H p = some u → (∀ zs, u ≠ .lst zs) → p ≠ a := fun e n z => by
    subst z
    rw [h] at e
    cases e
    exact n xs rfl
  rcases q with (q | ⟨ob, q⟩) | q
  · exact .inl (.inl (by rw [upd_ne (ne q fun _ => HO.noConfusion)]; exact q))
  · exact .inl (.inr ⟨ob, by rw [upd_ne (ne q fun _ => HO.noConfusion)]; exact q⟩)
  · exact .inr q
mutual
theorem Rp.updL {K : PySem.W.Frag} {H : Hp} {a : Addr} {o : HO} {xs : List V} (h : H a = some (.lst xs)) : ∀ {v : V} {d : D}, Rp K H v d → noL d = true → Rp K (upd H a o) v d
  | _, _, .non, _ => .non
  | _, _, .bl b, _ => .bl b
  | _, _, .int i, _ => .int i
  | _, _, .str x, _ => .str x
  | _, _, .lst _ _, n => nomatch n
  | _, _, .tup q r, n => .tup (sqT_upd h q) (RpA.updL h r n)
theorem RpA.updL {K : PySem.W.Frag} {H : Hp} {a : Addr} {o : HO} {xs : List V} (h : H a = some (.lst xs)) : ∀ {vs : List V} {ds : List D}, RpA K H vs ds → noLs ds = true → RpA K (upd H a o) vs ds
  | _, _, .nil, _ => .nil
  | _, _, .cons (d := d) (ds := ds) r rs, n => by
    have n : (noL d && noLs ds) = true := n
    rw [Bool.and_eq_true] at n
    exact .cons (Rp.updL h r n.1) (RpA.updL h rs n.2)
end
theorem noLs_iff : ∀ {ds : List D}, noLs ds = true ↔ ∀ d ∈ ds, noL d = true
  | [] => by simp [noLs]
  | d :: ds => by
    have := noLs_iff (ds := ds)
    show (noL d && noLs ds) = true ↔ _
    rw [Bool.and_eq_true, this]
    simp
theorem noLs_ints (ks : List Int) : noLs (ks.map PyData.int) = true := noLs_iff.mpr fun d h => by
  obtain ⟨k, _, rfl⟩ := List.mem_map.mp h
  rfl
/-- a list that stands at b: its items are no lists -/
structure LL (K : PySem.W.Frag) (H : Hp) (b : Addr) (ds : List D) : Prop where
  ex : ∃ ys, H b = some (.lst ys) ∧ RpA K H ys ds
  nl : noLs ds = true
theorem LL.rp {K : PySem.W.Frag} {H : Hp} {b : Addr} {ds : List D} (h : LL K H b ds) : Rp K H (.ref b) (.list ds) := by
  obtain ⟨ys, e, r⟩ := h.ex
  exact .lst e r
theorem LL.mono {K : PySem.W.Frag} {H H' : Hp} {b : Addr} {ds : List D} (s : Same H H') (h : LL K H b ds) : LL K H' b ds := by
  obtain ⟨ys, e, r⟩ := h.ex
  exact ⟨⟨ys, s _ _ e, r.mono s⟩, h.nl⟩
theorem LL.put {K : PySem.W.Frag} {H : Hp} {a b : Addr} {o : HO} {xs : List V} {ds : List D} (e : H a = some (.lst xs)) (h : LL K H b ds) (ne : b ≠ a) : LL K (upd H a o) b ds := by
  obtain ⟨ys, q, r⟩ := h.ex
  exact ⟨⟨ys, by rw [upd_ne ne]; exact q, r.updL e h.nl⟩, h.nl⟩
/-- one more item -/
theorem LL.push {K : PySem.W.Frag} {H : Hp} {b : Addr} {xs : List V} {ds : List D} {v : V} {d : D} (h : H b = some (.lst xs)) (r : RpA K H xs ds) (n : noLs ds = true) (rv : Rp K H v d) (nd : noL d = true) : LL K (upd H b (.lst (xs ++ [v]))) b (ds ++ [d]) := by
  refine ⟨⟨_, upd_same, (r.updL h n).append (.cons (rv.updL h nd) .nil)⟩, noLs_iff.mpr fun x hx => ?_⟩
  rcases List.mem_append.mp hx with hx | hx
  · exact noLs_iff.mp n x hx
  · rw [List.mem_singleton.mp hx]; exact nd
theorem LL.of {K : PySem.W.Frag} {H : Hp} {v : V} {ds : List D} (h : Rp K H v (.list ds)) (n : noLs ds = true) : ∃ b, v = .ref b ∧ LL K H b ds := by
  obtain ⟨b, xs, e, q, r⟩ := h.lstI
  exact ⟨b, e, ⟨xs, q, r⟩, n⟩
/-! ### the names' values, one by one -/
theorem envR_nil {K : PySem.W.Frag} {H : Hp} : EnvR K H [] [] := ⟨rfl, fun i d h => by cases h⟩
theorem envR_skip {K : PySem.W.Frag} {H : Hp} {σ : L2.St} {ρ : Rho} {x : Option V} (h : EnvR K H σ ρ) : EnvR K H (x :: σ) (none :: ρ) := ⟨congrArg (· + 1) h.len, fun i d e => by
  cases i with
  | zero => cases e
  | succ i => exact h.at_ i d e⟩
theorem envR_cons {K : PySem.W.Frag} {H : Hp} {σ : L2.St} {ρ : Rho} {v : V} {d : D} (r : Rp K H v d) (h : EnvR K H σ ρ) : EnvR K H (some v :: σ) (some d :: ρ) := ⟨congrArg (· + 1) h.len, fun i x e => by
  cases i with
  | zero => cases e; exact ⟨v, rfl, r⟩
  | succ i => exact h.at_ i x e⟩
/-! ### the context of a def's body -/
section
variable {P : Program} {w : World} {K : PySem.W.Frag} {mg : Str → Option Value} {base : Heap}
abbrev BX (P : Program) (w : World) (K : PySem.W.Frag) (mg : Str → Option Value) (base : Heap) (N : List Str) (x : Str) (i : Nat) (f : Addr) (cdv : Value) (A : Around) (outer : List Env) (s : Shared) (H : Hp) (E : XK) : Cx := (cxOf CX0 P w K mg base N x (defScope (topS i)) f cdv A outer s H E).nox
theorem lv_none (T : Tab K mg) {n : Nat} (b : Bool) : LvAt P w K mg base n (lvName b) (lvD 0 b) := by
  obtain ⟨fr, fl, fb, dr, dl, db, pr, pl, pb, sr, sl, sb, ⟨a1, a2, a3, a4⟩, ⟨b1, b2, b3, b4⟩, ⟨c1, c2, c3, c4⟩, h⟩ := (lv_low (P := P) (w := w) (base := base) T (n := 0) (by omega) b).ex
  exact ⟨fr, fl, fb, dr, dl, db, pr, pl, pb, sr, sl, sb, ⟨a1, a2, a3, a4.mono (Nat.zero_le _)⟩, ⟨b1, b2, b3, b4.mono (Nat.zero_le _)⟩, ⟨c1, c2, c3, c4.mono (Nat.zero_le _)⟩, h⟩
theorem fat_none (T : Tab K mg) {n : Nat} (f : F) : ∃ fd, Binds K fd (fps f) [] ∧ PySem.W.keepIn K (.ref (He.ga K (fname f))) = true ∧ FnOk P w K mg base CX0 n (He.ga K (fname f)) fd (fps f) (spD K (callD 0 f)) := by
  obtain ⟨fd, h1, h2, h3⟩ := (fat_zero (P := P) (w := w) (base := base) T f).ex
  exact ⟨fd, h1, h2, h3.mono (Nat.zero_le _)⟩
/-- within a body by hand: all pure defs with n calls left, no levels -/
theorem hand_sok (T : Tab K mg) {j n : Nat} (ih : ∀ f, FAt P w K mg base n f) (hj : n ≤ j) {N ps : List Str} {x : Str} {i : Nat} (S : FnScope N ps (defScope (topS i))) {f : Addr} {cdv : Value} {A : Around} {outer : List Env} {s : Shared} {H : Hp} {E : XK}
    (hr : Room j (A.deeper (envOfC x (defScope (topS i)) s.heap.objs.size f cdv))) : Sok ⟨callD n, lvD 0⟩ n N (defScope (topS i)) (BX P w K mg base N x i f cdv A outer s H E) :=
  { nn := rfl, nd := S.nd, esc := rfl, calm := rfl, room := hr.mono hj, blt := T.blt,
    fns := fun g => by
      obtain ⟨gd, h1, h2, h3⟩ := (ih g).ex
      exact ⟨_, gd, T.mgf g, h2, h1, h3⟩
    gl := T.gl, lv := fun b => ⟨(lv_none (P := P) (w := w) (base := base) T b).ex⟩, fn := fun _ => rfl, pas := PassesOwn.never }
/-- .. no defs at all -/
theorem hand_sok0 (T : Tab K mg) {n : Nat} {N ps : List Str} {x : Str} {i : Nat} (S : FnScope N ps (defScope (topS i))) {f : Addr} {cdv : Value} {A : Around} {outer : List Env} {s : Shared} {H : Hp} {E : XK}
    (hr : Room n (A.deeper (envOfC x (defScope (topS i)) s.heap.objs.size f cdv))) : Sok ⟨callD 0, lvD 0⟩ n N (defScope (topS i)) (BX P w K mg base N x i f cdv A outer s H E) :=
  { nn := rfl, nd := S.nd, esc := rfl, calm := rfl, room := hr, blt := T.blt,
    fns := fun g => by
      obtain ⟨gd, h1, h2, h3⟩ := fat_none (P := P) (w := w) (base := base) T (n := n) g
      exact ⟨_, gd, T.mgf g, h2, h1, h3⟩
    gl := T.gl, lv := fun b => ⟨(lv_none (P := P) (w := w) (base := base) T b).ex⟩, fn := fun _ => rfl, pas := PassesOwn.never }
end
section
variable {M : Sg} {k : Nat} {N : List Str} {sc : Scope} {X : Cx}
/-- an expression by its code -/
theorem sE (ok : Sok M k N sc X) (c : C) {e : Expr} (h : chk N c sc (.e e) = true) : PE X e (tD X.K (ev M c)) := ((snd M k N c).e sc X e ok.toCok h).pe
theorem sT (ok : Sok M k N sc X) (c : C) {e : Expr} (ht : tstB c = true) (h : chk N c sc (.e e) = true) : PT X e (tDb X.K fun ρ => (ev M c ρ).bind asB) := by
  obtain ⟨t, p, q⟩ := (snd M k N c).t sc X e ok.toCok ht h
  exact ⟨fun pins s σ H Q I ⟨ρ, d, E, hf, hq⟩ => p.run pins s σ H Q I (q σ H ρ d Q E hf hq)⟩
end
/-! ### name = [x for x in xs if ..] -/
theorem lc_read {X : Cx} {i0 : Nat} {ts : TE} {tt : TT} {te : TE} {fs fe : Rho → Option D} {fc : Rho → Option Bool} (qs : ∀ (σ : L2.St) (H : Hp) (ρ : Rho) (d : D) (Q : VK), EnvR X.K H σ ρ → fs ρ = some d → QOk X.K H d Q → ts σ H Q)
    (qt : ∀ (σ : L2.St) (H : Hp) (ρ : Rho) (b : Bool) (Q : Bool → Hp → Prop), EnvR X.K H σ ρ → fc ρ = some b → (∀ H', Same H H' → Q b H') → tt σ H Q) (qe : ∀ (σ : L2.St) (H : Hp) (ρ : Rho) (d : D) (Q : VK), EnvR X.K H σ ρ → fe ρ = some d → QOk X.K H d Q → te σ H Q)
    (σ : L2.St) (H : Hp) (ρ : Rho) (d : D) (Q : VK) (E : EnvR X.K H σ ρ) (h : ((fs ρ).bind fun x => (asL x).bind fun ds => if ds.length ≤ 1000 then (compGo (fun d => fc (setE ρ i0 d)) (fun d => fe (setE ρ i0 d)) ds).bind fun ys => some (.list ys) else none) = some d)
    (q : QOk X.K H d Q) : tLc (iList X.K ts) (gName i0) tt te [i0] σ H Q := by
  obtain ⟨z, hz, h⟩ := bind_some h
  obtain ⟨ds, hds, h9⟩ := bind_some h
  cases asL_some hds
  split at h9
  · rename_i hlen
    obtain ⟨ys, hys, h8⟩ := bind_some h9
    cases h8
    refine qs σ H ρ _ _ E hz fun v H1 s1 r1 => ?_
    obtain ⟨a, xs, rfl, ha, rx⟩ := r1.lstI
    refine ⟨a, rfl, ⟨xs, SqL.of ha⟩, fun Dl nD => ?_⟩
    refine lc_list (K := X.K) (a := a) (xs := xs) (fun i H' => Same H1 H' ∧ ∃ done rest, H' Dl = some (.lst (done.map vOf)) ∧ done.all flatD = true ∧ done.length ≤ i ∧ compGo (fun d => fc (setE ρ i0 d)) (fun d => fe (setE ρ i0 d)) (ds.drop i) = some rest ∧ done ++ rest = ys) ?_ ?_ ?_ ?_
    · exact ⟨same_upd nD, [], ys, upd_same, rfl, Nat.le_refl _, hys, rfl⟩
    · rintro i H' _ ⟨s', _⟩
      exact SqL.of (s' _ _ ha)
    · rintro i x' H' hxi ⟨s', done, rest, hD, hf, hle, hgo, hcat⟩
      have hi : i < ds.length := by
        rw [← rx.length]
        exact (List.getElem?_eq_some_iff.mp hxi).1
      obtain ⟨dd, hdd, rd⟩ := rx.getV hxi
      have hdrop : ds.drop i = dd :: ds.drop (i + 1) := by
        rw [List.drop_eq_getElem_cons hi]
        rw [List.getElem?_eq_getElem hi] at hdd
        cases hdd
        rfl
      rw [hdrop] at hgo
      refine comp_turn nD s' (E.mono s1) (rd.mono s') hD hf (by omega) hgo (fun σ' H'' b Q' E' hb hq => qt σ' H'' _ b Q' E' hb hq) (fun σ' H'' y Q' E' hy hq => qe σ' H'' _ y Q' E' hy hq) fun H'' done' rest' s'' hD' hf' hl' hgo' hcat' => ?_
      exact ⟨s'', done', rest', hD', hf', by omega, hgo', by rw [hcat', hcat]⟩
    · rintro H' ⟨s', done, rest, hD, hf, hle, hgo, hcat⟩
      rw [List.drop_eq_nil_of_le (by rw [rx.length]; exact Nat.le_refl _)] at hgo
      cases hgo
      rw [List.append_nil] at hcat
      subst hcat
      exact q _ H' (s1.trans s') (.lst hD (rpA_of hf))
  · cases h9
def tSetD (K : PySem.W.Frag) (j : Nat) (f : Rho → Option D) : TS := fun D σ H => ∃ ρ d, EnvR K H σ ρ ∧ f ρ = some d ∧ ∀ v H', Same H H' → Rp K H' v d → D.nx (σ.set j (some v)) H'
theorem ps_setF {M : Sg} {k : Nat} {N : List Str} {sc : Scope} {X : Cx} (ok : Sok M k N sc X) (hkind : sc.kind = .function) {j i : Nat} {src cond elt : C} {x y : Str} {px py pos spos : Pos} {el it c : Expr} {scope : Scope}
    (hy : N[j]? = some y) (hyl : sc.names.lookup y = some .local) (hl : (py.line == pos.line) = true) (ha : (scope.names.any fun (n, k) => n == y && (k == .local || k == .cell)) = false)
    (hn : isNil cond = false) (hc : chk N (.comp true i src cond elt) sc (.e (.ListComp el [⟨.Name x px, it, [c], 0⟩] scope pos)) = true) :
    PS X (.Assign [.Name y py] (.ListComp el [⟨.Name x px, it, [c], 0⟩] scope pos) spos) (tSetD X.K j (ev M (.comp true i src cond elt))) := by
  unfold chk at hc
  split at hc
  · rename_i el2 t2 tp2 it2 ifs2 scope2 pos2 heq
    cases heq
    simp only [Bool.and_eq_true, decide_eq_true_eq] at hc
    obtain ⟨⟨⟨⟨⟨⟨h1, h2⟩, h3⟩, h4⟩, h5⟩, h6⟩, h7⟩ := hc
    obtain rfl := ok.nn
    obtain rfl := ok.esc
    rw [hn] at h7
    have h7' : (tstB cond && chk X.N cond (relS scope X.env.scope) (.e c)) = true := h7
    simp only [Bool.and_eq_true] at h7'
    obtain ⟨ts, ps, qs⟩ := (snd M _ X.N src).e _ X _ ok.toCok h5
    have hfs : ∀ z, foldedSetIterable it X.env z = pure z := fun z => by
      cases it <;> first | rfl | exact nomatch h3
    have p := ps_setLc (X := X) (i := j) (spos := spos) (pos := pos) (py := py) (tg := .Name x px) (own := [(x, i)]) (g := gName i) (tt := tDb X.K fun ρ => (ev M cond ρ).bind asB) (te := tD X.K (ev M elt)) ok.calm ok.nd hy hyl (sw_true hkind hyl hl ha) (pi_list ps) (blkOk_by h2)
      (fun s H Ca cl fp => pg_name (i := i) ok.nd h1 (.inl h4) (.inr h4)) (fun s H Ca cl fp => DTs.pt (X := X.blk s H scope (compEnvC scope cl Ca X.env) fp) (dts_one ((snd M _ X.N cond).t _ _ _ (ok.toCok.blk s H Ca cl fp) h7'.1 h7'.2)))
      (fun s H Ca cl fp => DE.pe (X := X.blk s H scope (compEnvC scope cl Ca X.env) fp) ((snd M _ X.N elt).e _ _ _ (ok.toCok.blk s H Ca cl fp) h6)) hfs
    refine ⟨fun pins s σ H D I ⟨ρ, d, E, hf, q⟩ => p.run pins s σ H D I ?_⟩
    refine lc_read (X := X) (fs := ev M src) (fe := ev M elt) (fc := fun ρ => (ev M cond ρ).bind asB) qs (fun σ H ρ b Q E hb hq => ⟨ρ, b, E, hb, hq⟩) (fun σ H ρ d Q E hd hq => ⟨ρ, d, E, hd, hq⟩) σ H ρ d _ E ?_ q
    rw [← hf]
    show _ = (ev M src ρ).bind _
    rw [hn]
    rfl
  · cases hc
end TT
set_option Elab.async false
set_option linter.all false
set_option maxRecDepth 100000
set_option maxHeartbeats 4000000
/-! The two defs of the program that fill lists. -/
namespace TT
open PySem PySem.Spec PyProof.Rows L2
section
variable {P : Program} {w : World} {K : PySem.W.Frag} {mg : Str → Option Value} {base : Heap}
abbrev nRun : List Str := ["rule", "row", "shape", "shapes", "costs", "deed"]
theorem sRun : FnScope nRun ["rule", "row"] (defScope (topS 71)) := scopeB_ok (by decide +kernel)
theorem run_inv {n : Nat} {ds : List D} {d : D} (h : callD (n + 1) .run ds = some d) : ∃ r xs q, ds = [r, .list xs] ∧ xs.length ≤ 100 ∧ runGo (callD n) r xs (.tuple []) = some q ∧ d = .tuple [.list q.1, .list q.2] := by
  have hl := callD_some h
  match ds, hl with
  | [r, x], _ =>
    have h : runD (callD n) r x = some d := h
    unfold runD at h
    obtain ⟨xs, h1, h2⟩ := bind_some h
    split at h2
    · rename_i hz
      obtain ⟨q, h3, h4⟩ := bind_some h2
      cases h4
      exact ⟨r, xs, q, by rw [asL_some h1], hz, h3, rfl⟩
    · cases h2
theorem ok_run (T : Tab K mg) {n : Nat} (ih : ∀ f, FAt P w K mg base n f) : FAt P w K mg base (n + 1) .run := by
  obtain ⟨fd, F⟩ := T.def_ _ (dfs_at .run)
  refine ⟨fd, F.bindsN (bind_all .run), F.kp, F.ok sRun (len_spD) (fun cdv A outer s H vs Q E hr h => ?_)⟩
  obtain ⟨ds, d, r, h, q⟩ := h
  obtain ⟨ru, xd, qq, rfl, hz, hgo, rfl⟩ := run_inv h
  have ok := hand_sok (P := P) (w := w) (base := base) T ih (Nat.le_refl n) sRun (outer := outer) (H := H) (E := E) hr
  cases r with
  | cons r0 r =>
    cases r with
    | cons r1 r =>
      cases r
      rename_i v0 v1
      obtain ⟨ra, xs, rfl, ha, rx⟩ := r1.lstI
      refine ⟨_, (pss_cons (ps_par3 (i := 2) (j := 3) (l := 4) rfl sRun.nd rfl rfl rfl (by decide) (by decide) (by decide) rfl rfl rfl (pa_cons (pe_tup pa_nil) (pa_cons (pe_lst pa_nil) (pa_cons (pe_lst pa_nil) pa_nil))) (by rfl))
        (pss_cons (ps_for PassesOwn.never rfl (pi_list (pv 1)) (pg_name (i := 5) sRun.nd rfl (Or.inl rfl))
          (pss_cons (ps_expr (pe_bm PySem.F.plainAttrs_list PySem.F.slot_list_append PySem.F.type_list_append mt_append (pv 4) (pa_cons (sE ok (.call .cost_of (.cons (.var 2) (.cons (.var 5) .nil))) (by decide +kernel)) pa_nil)))
            (pss_cons (ps_set (i := 2) sRun.nd rfl (Or.inl rfl) (sE ok (.call .behind (.cons (.var 0) (.cons (.var 2) (.cons (.var 5) .nil)))) (by decide +kernel)))
              (pss_one (ps_expr (pe_bm PySem.F.plainAttrs_list PySem.F.slot_list_append PySem.F.type_list_append mt_append (pv 3) (pa_cons (pv 2) pa_nil)))))))
          (pss_one (ps_ret (pe_tup (pa_cons (pv 3) (pa_cons (pv 4) pa_nil))))))).nox, ?_⟩
      refine ⟨by decide, fun p0 n0 => ⟨by decide, fun p1 n1 => ⟨by decide, fun p2 n2 => ⟨_, _, _, rfl, ?_⟩⟩⟩⟩
      have a1 : Same H (upd H p0 (.tup [])) := same_upd n0
      have a2 : Same (upd H p0 (.tup [])) (upd (upd H p0 (.tup [])) p1 (.lst [])) := same_upd n1
      have a3 : Same (upd (upd H p0 (.tup [])) p1 (.lst [])) (upd (upd (upd H p0 (.tup [])) p1 (.lst [])) p2 (.lst [])) := same_upd n2
      have e0 : (upd (upd (upd H p0 (.tup [])) p1 (.lst [])) p2 (.lst [])) p0 = some (.tup []) := a3 _ _ (a2 _ _ upd_same)
      have e1 : (upd (upd (upd H p0 (.tup [])) p1 (.lst [])) p2 (.lst [])) p1 = some (.lst []) := a3 _ _ upd_same
      have e2 : (upd (upd (upd H p0 (.tup [])) p1 (.lst [])) p2 (.lst [])) p2 = some (.lst []) := upd_same
      have sH := a1.trans (a2.trans a3)
      have m1 : H p1 = none := by
        cases z : H p1 with
        | none => rfl
        | some o => have := a1 _ _ z; rw [n1] at this; cases this
      have m2 : H p2 = none := by
        cases z : H p2 with
        | none => rfl
        | some o => have := (a1.trans a2) _ _ z; rw [n2] at this; cases this
      have ne : p1 ≠ p2 := fun z => by
        subst z
        rw [upd_same] at n2
        cases n2
      generalize (upd (upd (upd H p0 (.tup [])) p1 (.lst [])) p2 (.lst [])) = G at *
      clear a1 a2 a3 n1 n2
      refine ⟨_, rfl, ra, rfl, ⟨xs, SqL.of (sH _ _ ha)⟩, ?_⟩
      refine for_list (K := K) (a := ra) (xs := xs) (fun j σ H' => ∃ sv x5 sd sh cs rest, σ = [some v0, some (.ref ra), some sv, some (.ref p1), some (.ref p2), x5] ∧ Same H H' ∧ Rp K H' sv sd ∧ noL sd = true ∧ LL K H' p1 sh ∧ LL K H' p2 cs ∧ sh.length ≤ j ∧ cs.length ≤ j ∧
        runGo (callD n) ru (xd.drop j) sd = some rest ∧ sh ++ rest.1 = qq.1 ∧ cs ++ rest.2 = qq.2) ?_ ?_ ?_ ?_
      · exact ⟨.ref p0, none, .tuple [], [], [], qq, rfl, sH, .tup (.inl (.inl e0)) .nil, rfl, ⟨⟨[], e1, .nil⟩, rfl⟩, ⟨⟨[], e2, .nil⟩, rfl⟩, Nat.le_refl _, Nat.le_refl _, hgo, rfl, rfl⟩
      · rintro j σ H' _ ⟨_, _, _, _, _, _, _, s', _⟩
        exact SqL.of (s' _ _ ha)
      · rintro j x σ H' hxj ⟨sv, x5, sd, sh, cs, rest, rfl, s', rs, ns, l1, l2, z1, z2, hg, c1, c2⟩
        have hj : j < xd.length := by
          rw [← rx.length]
          exact (List.getElem?_eq_some_iff.mp hxj).1
        obtain ⟨dd, hdd, rd⟩ := rx.getV hxj
        have hdrop : xd.drop j = dd :: xd.drop (j + 1) := by
          rw [List.drop_eq_getElem_cons hj]
          rw [List.getElem?_eq_getElem hj] at hdd
          cases hdd
          rfl
        rw [hdrop, runGo] at hg
        obtain ⟨c, hc, hg⟩ := bind_some hg
        obtain ⟨sd2, hs2, hg⟩ := bind_some hg
        split at hg
        · rename_i hfl
          rw [Bool.and_eq_true] at hfl
          obtain ⟨rest2, hr2, hg⟩ := bind_some hg
          cases hg
          have nc : noL c = true := by cases c <;> first | rfl | (have := hfl.1; cases this)
          have E1 : EnvR K H' [some v0, some (.ref ra), some sv, some (.ref p1), some (.ref p2), some x] [some ru, none, some sd, none, none, some dd] :=
            envR_cons (r0.mono s') (envR_skip (envR_cons rs (envR_skip (envR_skip (envR_cons (rd.mono s') envR_nil)))))
          obtain ⟨ys, f2, r2⟩ := l2.ex
          refine ⟨_, rfl, .inl ⟨rfl, _, SqL.of f2⟩, _, c, E1, ?_, fun v H1 s1 rv => ?_⟩
          · simp [hc]
          have f2' := s1 _ _ f2
          refine ⟨p2, ys, v, rfl, rfl, f2', by have := small1000 (n := ys.length) (by rw [r2.length]; omega); exact this, ?_⟩
          have l2' := LL.push f2' (r2.mono s1) l2.nl rv nc
          have l1' : LL K (upd H1 p2 (.lst (ys ++ [v]))) p1 sh := (l1.mono s1).put f2' ne
          have rs' : Rp K (upd H1 p2 (.lst (ys ++ [v]))) sv sd := (rs.mono s1).updL f2' ns
          have sH2 : Same H (upd H1 p2 (.lst (ys ++ [v]))) := fun b o e => by
            rw [upd_ne (ne_of_none e m2)]
            exact s1 _ _ (s' _ _ e)
          generalize upd H1 p2 (.lst (ys ++ [v])) = H2 at *
          have E2 : EnvR K H2 [some v0, some (.ref ra), some sv, some (.ref p1), some (.ref p2), some x] [some ru, none, some sd, none, none, some dd] :=
            envR_cons (r0.mono sH2) (envR_skip (envR_cons rs' (envR_skip (envR_skip (envR_cons (rd.mono sH2) envR_nil)))))
          refine ⟨_, sd2, E2, ?_, fun v2 H3 s3 rv2 => ?_⟩
          · simp [hs2]
          obtain ⟨ys1, g1, q1⟩ := (l1'.mono s3).ex
          refine ⟨_, rfl, .inl ⟨rfl, _, SqL.of g1⟩, _, rfl, p1, ys1, v2, rfl, rfl, g1, by have := small1000 (n := ys1.length) (by rw [q1.length]; omega); exact this, ?_⟩
          refine ⟨v2, some x, sd2, sh ++ [sd2], cs ++ [c], rest2, rfl, fun b o e => ?_, rv2.updL g1 hfl.2, hfl.2, LL.push g1 q1 l1.nl rv2 hfl.2, (l2'.mono s3).put g1 (fun z => ne z.symm), by rw [List.length_append]; exact Nat.succ_le_succ z1, by rw [List.length_append]; exact Nat.succ_le_succ z2, hr2, by rw [← c1, List.append_assoc]; rfl, by rw [← c2, List.append_assoc]; rfl⟩
          rw [upd_ne (ne_of_none e m1)]
          exact s3 _ _ (sH2 _ _ e)
        · cases hg
      · rintro σ H' ⟨sv, x5, sd, sh, cs, rest, rfl, s', rs, ns, l1, l2, z1, z2, hg, c1, c2⟩
        rw [List.drop_eq_nil_of_le (by rw [rx.length]; exact Nat.le_refl _)] at hg
        cases hg
        rw [List.append_nil] at c1 c2
        subst c1 c2
        refine ⟨_, rfl, _, rfl, (by show 2 ≤ sizeLine; decide), fun p np => q _ _ (s'.trans (same_upd np)) (.tup (.inl (.inl upd_same)) (.cons ((l1.rp).mono (same_upd np)) (.cons ((l2.rp).mono (same_upd np)) .nil)))⟩

/-! ### keys_along -/
inductive FL (K : PySem.W.Frag) (H : Hp) (fa : Addr) : List V → List (List Int) → Prop
  | nil : FL K H fa [] []
  | cons {b : Addr} {fs : List V} {l : List Int} {ls : List (List Int)} : b ≠ fa → LL K H b (l.map PyData.int) → FL K H fa fs ls → FL K H fa (.ref b :: fs) (l :: ls)
theorem FL.mono {H H' : Hp} {fa : Addr} (s : Same H H') : ∀ {fs : List V} {ls : List (List Int)}, FL K H fa fs ls → FL K H' fa fs ls
  | _, _, .nil => .nil
  | _, _, .cons n l r => .cons n (l.mono s) (FL.mono s r)
theorem FL.put {H : Hp} {fa : Addr} {o : HO} {xs : List V} (e : H fa = some (.lst xs)) : ∀ {fs : List V} {ls : List (List Int)}, FL K H fa fs ls → FL K (upd H fa o) fa fs ls
  | _, _, .nil => .nil
  | _, _, .cons n l r => .cons n (l.put e n) (FL.put e r)
theorem FL.snoc {H : Hp} {fa b : Addr} {l : List Int} (n : b ≠ fa) (h : LL K H b (l.map PyData.int)) : ∀ {fs : List V} {ls : List (List Int)}, FL K H fa fs ls → FL K H fa (fs ++ [.ref b]) (ls ++ [l])
  | _, _, .nil => .cons n h .nil
  | _, _, .cons n' l' r => .cons n' l' (FL.snoc n h r)
theorem FL.len {H : Hp} {fa : Addr} : ∀ {fs : List V} {ls : List (List Int)}, FL K H fa fs ls → fs.length = ls.length
  | _, _, .nil => rfl
  | _, _, .cons _ _ r => congrArg (· + 1) (FL.len r)
theorem FL.rpA {H : Hp} {fa : Addr} : ∀ {fs : List V} {ls : List (List Int)}, FL K H fa fs ls → RpA K H fs (ls.map fun l => .list (l.map PyData.int))
  | _, _, .nil => .nil
  | _, _, .cons _ l r => .cons l.rp (FL.rpA r)
theorem FL.alias {H : Hp} {fa : Addr} {ks : List Int} : ∀ {fs : List V} {ls : List (List Int)}, FL K H fa fs ls → RpA K H fs (ks.map PyData.int) → ls = [] ∧ ks = []
  | _, _, .nil, r => ⟨rfl, by cases ks with | nil => rfl | cons _ _ => cases r⟩
  | _, _, .cons _ _ _, r => by
    cases ks with
    | nil => cases r
    | cons _ _ =>
      cases r with
      | cons a _ => cases a
theorem deedsD_some : ∀ {ds : List D} {row : List (Str × Int)}, deedsD ds = some row → ds = row.map fun d => .tuple [.str d.1, .int d.2]
  | [], _, h => by cases h; rfl
  | d :: ds, row, h => by
    match d, h with
    | .tuple [.str w, .int k], h =>
      obtain ⟨r, h1, h2⟩ := bind_some (show (deedsD ds).bind (fun r => some ((w, k) :: r)) = some row from h)
      cases h2
      rw [deedsD_some h1]
      rfl
def keysOut : Option (List (List Int)) → D
  | none => .none
  | some ls => .list (ls.map fun l => .list (l.map PyData.int))
theorem keys_inv {n : Nat} {ds : List D} {d : D} (h : callD (n + 1) .keys_along ds = some d) : ∃ row : List (Str × Int), ds = [.list (row.map fun d => .tuple [.str d.1, .int d.2])] ∧ row.length ≤ 100 ∧ d = keysOut (keysGo row []) := by
  have hl := callD_some h
  match ds, hl with
  | [x], _ =>
    have h : keysD x = some d := h
    unfold keysD at h
    obtain ⟨xs, h1, h2⟩ := bind_some h
    split at h2
    · rename_i hz
      obtain ⟨row, h3, h4⟩ := bind_some h2
      have e := deedsD_some h3
      refine ⟨row, by rw [asL_some h1, e], by rw [e, List.length_map] at hz; exact hz, ?_⟩
      cases h4
      cases keysGo row [] <;> rfl
    · cases h2
theorem strB (a b : Str) : (a == b) = decide (a = b) := by by_cases h : a = b <;> simp [h]
abbrev nKeys : List Str := ["row", "here", "found", "word", "key", "one"]
theorem sKeys : FnScope nKeys ["row"] (defScope (topS 68)) := scopeB_ok (by decide +kernel)
theorem ok_keys (T : Tab K mg) (n : Nat) : FAt P w K mg base (n + 1) .keys_along := by
  obtain ⟨fd, F⟩ := T.def_ _ (dfs_at .keys_along)
  refine ⟨fd, F.bindsN (bind_all .keys_along), F.kp, F.ok sKeys (len_spD) (fun cdv A outer s H vs Q E hr h => ?_)⟩
  obtain ⟨ds, d, r, h, q⟩ := h
  obtain ⟨row, rfl, hz, rfl⟩ := keys_inv h
  have ok := hand_sok0 (P := P) (w := w) (base := base) T sKeys (outer := outer) (H := H) (E := E) hr
  cases r with
  | cons r0 r =>
    cases r
    obtain ⟨ra, xs, rfl, ha, rx⟩ := r0.lstI
    refine ⟨_, (pss_cons (ps_par (i := 1) (j := 2) rfl sKeys.nd rfl rfl (by decide) rfl rfl (pa_cons (pe_lst pa_nil) (pa_cons (pe_lst pa_nil) pa_nil)) (by rfl))
      (pss_cons (ps_for PassesOwn.never rfl (pi_list (pv 0)) (pg_tup rfl (pgs_cons (pg_name (i := 3) sKeys.nd rfl (Or.inl rfl)) (pgs_cons (pg_name (i := 4) sKeys.nd rfl (Or.inr rfl)) pgs_nil)))
        (pss_cons (ps_if (sT ok (.b2 .ne (.b2 .inn (.var 4) (.var 1)) (.b2 .ne (.var 3) (.cst (.str "in")))) rfl (by decide +kernel)) (pss_one (ps_ret (sE ok (.cst .none) (by decide +kernel)))) pss_nil)
          (pss_cons (ps_if (sT ok (.b2 .eq (.var 3) (.cst (.str "in"))) rfl (by decide +kernel)) (pss_one (ps_set (i := 1) sKeys.nd rfl (Or.inl rfl) (sE ok (.b2 .add (.var 1) (.lst (.cons (.var 4) .nil))) (by decide +kernel)))) pss_nil)
            (pss_cons (ps_if (sT ok (.b2 .eq (.var 3) (.cst (.str "out"))) rfl (by decide +kernel)) (pss_one (ps_setF (j := 1) (i := 5) (src := .var 1) (cond := .b2 .ne (.var 5) (.var 4)) (elt := .var 5) ok rfl rfl rfl rfl (by decide +kernel) rfl (by decide +kernel))) pss_nil)
              (pss_one (ps_expr (pe_bm PySem.F.plainAttrs_list PySem.F.slot_list_append PySem.F.type_list_append mt_append (pv 2) (pa_cons (pv 1) pa_nil))))))))
        (pss_one (ps_ret (pv 2))))).nox, ?_⟩
    refine ⟨by decide, fun p1 n1 => ⟨by decide, fun p2 n2 => ⟨_, _, rfl, ?_⟩⟩⟩
    have a2 : Same H (upd H p1 (.lst [])) := same_upd n1
    have a3 : Same (upd H p1 (.lst [])) (upd (upd H p1 (.lst [])) p2 (.lst [])) := same_upd n2
    have e1 : (upd (upd H p1 (.lst [])) p2 (.lst [])) p1 = some (.lst []) := a3 _ _ upd_same
    have e2 : (upd (upd H p1 (.lst [])) p2 (.lst [])) p2 = some (.lst []) := upd_same
    have sH := a2.trans a3
    have m2 : H p2 = none := by
      cases z : H p2 with
      | none => rfl
      | some o => have := a2 _ _ z; rw [n2] at this; cases this
    have ne : p1 ≠ p2 := fun z => by
      subst z
      rw [upd_same] at n2
      cases n2
    generalize (upd (upd H p1 (.lst [])) p2 (.lst [])) = G at *
    clear a2 a3 n1 n2
    refine ⟨_, rfl, ra, rfl, ⟨xs, SqL.of (sH _ _ ha)⟩, ?_⟩
    refine for_list (K := K) (a := ra) (xs := xs) (fun j σ H' => ∃ hb x3 x4 x5 here ls, σ = [some (.ref ra), some (.ref hb), some (.ref p2), x3, x4, x5] ∧ Same H H' ∧ hb ≠ p2 ∧ LL K H' hb (here.map PyData.int) ∧ here.length ≤ j ∧ (ls = [] → here = []) ∧
      (∃ fs, H' p2 = some (.lst fs) ∧ FL K H' p2 fs ls) ∧ ls.length ≤ j ∧ keysGo row [] = (keysGo (row.drop j) here).map (ls ++ ·)) ?_ ?_ ?_ ?_
    · refine ⟨p1, none, none, none, [], [], rfl, sH, ne, ⟨⟨[], e1, .nil⟩, rfl⟩, Nat.le_refl _, fun _ => rfl, ⟨[], e2, .nil⟩, Nat.le_refl _, ?_⟩
      rw [List.drop_zero]
      cases keysGo row [] <;> rfl
    · rintro j σ H' _ ⟨_, _, _, _, _, _, _, s', _⟩
      exact SqL.of (s' _ _ ha)
    · rintro j x σ H' hxj ⟨hb, x3, x4, x5, here, ls, rfl, s', nhb, lh, z0, hne, ⟨fs, hf, fl⟩, z1, hgo⟩
      have hj : j < row.length := by
        have := (List.getElem?_eq_some_iff.mp hxj).1
        rw [rx.length, List.length_map] at this
        exact this
      obtain ⟨dd, hdd, rd⟩ := rx.getV hxj
      rw [List.getElem?_map, List.getElem?_eq_getElem hj] at hdd
      have hdrop := List.drop_eq_getElem_cons hj
      generalize row[j] = wk at *
      obtain ⟨wd, k⟩ := wk
      cases hdd
      obtain ⟨ta, tx, rfl, ht, rt⟩ := rd.tupI
      cases rt with
      | cons ra1 rt =>
      cases rt with
      | cons rb1 rt =>
      cases rt
      cases ra1
      cases rb1
      rw [hdrop] at hgo
      refine ⟨ta, _, rfl, sqT_mono s' ht, rfl, _, _, rfl, _, _, rfl, rfl, ?_⟩
      have E1 : ∀ {H1 : Hp} {hb1 : Addr} {h1 : List Int} {x : Option V}, LL K H1 hb1 (h1.map PyData.int) → EnvR K H1 [some (.ref ra), some (.ref hb1), some (.ref p2), some (.str wd), some (.int k), x] [none, some (.list (h1.map PyData.int)), none, some (.str wd), some (.int k), none] :=
        fun l => envR_skip (envR_cons l.rp (envR_skip (envR_cons (.str _) (envR_cons (.int _) (envR_skip envR_nil)))))
      -- the last statement, the next turn
      have fin : ∀ {H2 : Hp} {hb2 : Addr} {h2 : List Int} {x : Option V}, Same H H2 → Same H' H2 → hb2 ≠ p2 → LL K H2 hb2 (h2.map PyData.int) → h2.length ≤ j + 1 → (keysGo row [] = ((keysGo (row.drop (j + 1)) h2).bind fun l => some (h2 :: l)).map (ls ++ ·)) →
          ∃ v, [some (V.ref ra), some (.ref hb2), some (.ref p2), some (.str wd), some (.int k), x][2]? = some (some v) ∧ tyV K "list" v H2 ∧ ∃ y, [some (V.ref ra), some (.ref hb2), some (.ref p2), some (.str wd), some (.int k), x][1]? = some (some y) ∧ rAppend v [y] H2 fun _ H3 =>
            ∃ hb' x3 x4 x5 here ls, [some (V.ref ra), some (.ref hb2), some (.ref p2), some (.str wd), some (.int k), x] = [some (V.ref ra), some (.ref hb'), some (.ref p2), x3, x4, x5] ∧ Same H H3 ∧ hb' ≠ p2 ∧ LL K H3 hb' (here.map PyData.int) ∧ here.length ≤ j + 1 ∧ (ls = [] → here = []) ∧
      (∃ fs, H3 p2 = some (.lst fs) ∧ FL K H3 p2 fs ls) ∧ ls.length ≤ j + 1 ∧ keysGo row [] = (keysGo (row.drop (j + 1)) here).map (ls ++ ·) := by
        intro H2 hb2 h2 x s2 s3 n2 l2 z2 hg
        have hf2 := s3 _ _ hf
        refine ⟨_, rfl, .inl ⟨rfl, _, SqL.of hf2⟩, _, rfl, p2, fs, _, rfl, rfl, hf2, by have := small1000 (n := fs.length) (by rw [fl.len]; omega); exact this, ?_⟩
        refine ⟨hb2, _, _, _, h2, ls ++ [h2], rfl, fun b o e => by rw [upd_ne (ne_of_none e m2)]; exact s2 _ _ e, n2, l2.put hf2 n2, z2, fun e => absurd e (by simp), ⟨_, upd_same, ((fl.mono s3).put hf2).snoc n2 (l2.put hf2 n2)⟩, by rw [List.length_append]; exact Nat.succ_le_succ z1, ?_⟩
        rw [hg]
        cases keysGo (row.drop (j + 1)) h2 with
        | none => rfl
        | some l => show some (ls ++ h2 :: l) = some ((ls ++ [h2]) ++ l); rw [List.append_assoc]; rfl
      have kg : keysGo ((wd, k) :: row.drop (j + 1)) here = if (decide (k ∈ here) != decide (wd ≠ "in")) then none else (keysGo (row.drop (j + 1)) (nextKeys here wd k)).bind fun l => some (nextKeys here wd k :: l) := rfl
      rw [kg] at hgo
      refine ⟨_, decide (k ∈ here) != decide (wd ≠ "in"), E1 lh, ?_, fun H1 s1 => ?_⟩
      · simp [strB, bne]
      by_cases ct : (decide (k ∈ here) != decide (wd ≠ "in")) = true
      · rw [if_pos ct] at hgo
        refine (if_pos ct).mpr ?_
        refine ⟨_, .none, E1 (lh.mono s1), rfl, fun v H2 s2 rv => ?_⟩
        rw [hgo] at q
        exact q v H2 (s'.trans (s1.trans s2)) rv
      · rw [if_neg ct] at hgo
        refine (if_neg ct).mpr ?_
        refine ⟨_, decide (wd = "in"), E1 (lh.mono s1), by simp [strB], fun H2 s2 => ?_⟩
        by_cases ci : wd = "in"
        · refine (if_pos (decide_eq_true ci)).mpr ?_
          rw [show nextKeys here wd k = here ++ [k] from if_pos ci] at hgo
          refine ⟨_, .list ((here ++ [k]).map PyData.int), E1 (lh.mono (s1.trans s2)), ?_, fun v H3 s3 rv => ?_⟩
          · have hzz : here.length + 1 ≤ 1000 := by omega
            simp
            omega
          obtain ⟨b, rfl, lb⟩ := LL.of rv (noLs_ints _)
          have s13 := s1.trans (s2.trans s3)
          have nb : b ≠ p2 := fun z => by
            obtain ⟨ys, hy, ry⟩ := lb.ex
            rw [z, s13 _ _ hf] at hy
            cases hy
            have := (fl.mono s13).alias ry
            simp at this
          refine ⟨_, decide (wd = "out"), E1 lb, by simp [strB], fun H4 s4 => ?_⟩
          refine (if_neg (by rw [ci]; decide +kernel)).mpr ?_
          exact fin (s'.trans (s13.trans s4)) (s13.trans s4) nb (lb.mono s4) (by rw [List.length_append, List.length_singleton]; omega) hgo
        · refine (if_neg (by rw [decide_eq_false ci]; exact Bool.false_ne_true)).mpr ?_
          refine ⟨_, decide (wd = "out"), E1 (lh.mono (s1.trans s2)), by simp [strB], fun H3 s3 => ?_⟩
          by_cases co : wd = "out"
          · refine (if_pos (decide_eq_true co)).mpr ?_
            rw [show nextKeys here wd k = here.filter fun y => decide (y ≠ k) from (if_neg ci).trans (if_pos co)] at hgo
            have hk : k ∈ here := by
              rw [decide_eq_true (show wd ≠ "in" from ci)] at ct
              simpa using ct
            refine ⟨_, .list ((here.filter fun y => decide (y ≠ k)).map PyData.int), E1 (lh.mono (s1.trans (s2.trans s3))), ?_, fun v H4 s4 rv => ?_⟩
            · exact e_filter (fun y => decide (y ≠ k)) (by simp) rfl rfl (by omega) (fun x _ => by simp)
            obtain ⟨b, rfl, lb⟩ := LL.of rv (noLs_ints _)
            have s14 := s1.trans (s2.trans (s3.trans s4))
            have nb : b ≠ p2 := fun z => by
              obtain ⟨ys, hy, ry⟩ := lb.ex
              rw [z, s14 _ _ hf] at hy
              cases hy
              have := (fl.mono s14).alias ry
              rw [hne this.1] at hk
              cases hk
            have := List.length_filter_le (fun y => decide (y ≠ k)) here
            exact fin (s'.trans s14) s14 nb lb (by omega) hgo
          · refine (if_neg (by rw [decide_eq_false co]; exact Bool.false_ne_true)).mpr ?_
            rw [show nextKeys here wd k = here from (if_neg ci).trans (if_neg co)] at hgo
            have s13 := s1.trans (s2.trans s3)
            exact fin (s'.trans s13) s13 nhb (lh.mono s13) (by omega) hgo
    · rintro σ H' ⟨hb, x3, x4, x5, here, ls, rfl, s', nhb, lh, z0, hne, ⟨fs, hf, fl⟩, z1, hgo⟩
      rw [List.drop_eq_nil_of_le (by rw [rx.length, List.length_map]; exact Nat.le_refl _)] at hgo
      have hgo : keysGo row [] = some (ls ++ []) := hgo
      rw [List.append_nil] at hgo
      rw [hgo] at q
      exact ⟨_, rfl, q _ _ s' (.lst hf fl.rpA)⟩
end
end TT
set_option Elab.async false
set_option linter.all false
set_option maxRecDepth 100000
set_option maxHeartbeats 4000000
/-! The law's own trees by levels: cells that are changed in place. -/
namespace TT
open PySem PySem.Spec PyProof.Rows L2
inductive AT where
  | nil
  | node (l : AT) (a : Addr) (r : AT)
def AT.v : AT → V
  | .nil => .non
  | .node _ a _ => .ref a
def AT.as : AT → List Addr
  | .nil => []
  | .node l a r => l.as ++ a :: r.as
def TR (H : Hp) : AT → RT → Prop
  | .nil, .nil => True
  | .node al a ar, .node l k r y => H a = some (.lst [al.v, .int k, ar.v, .int y]) ∧ TR H al l ∧ TR H ar r
  | _, _ => False
def Fr (S : List Addr) (H H' : Hp) : Prop := ∀ b o, H b = some o → b ∉ S → H' b = some o
theorem Fr.refl {S : List Addr} {H : Hp} : Fr S H H := fun _ _ h _ => h
theorem Fr.same {S : List Addr} {H H' : Hp} (s : Same H H') : Fr S H H' := fun b o h _ => s b o h
theorem Fr.trans {S S' : List Addr} {H H1 H2 : Hp} (f : Fr S H H1) (g : Fr S' H1 H2) (h : ∀ b ∈ S', b ∈ S ∨ H b = none) : Fr S H H2 := fun b o e n => by
  refine g b o (f b o e n) fun m => ?_
  rcases h b m with h | h
  · exact n h
  · rw [e] at h; cases h
theorem Fr.put {S : List Addr} {H : Hp} {a : Addr} {o : HO} (h : a ∈ S) : Fr S H (upd H a o) := fun b u e n => by
  rw [upd_ne fun z => n (by rw [z]; exact h)]
  exact e
theorem Fr.mono {S S' : List Addr} {H H' : Hp} (f : Fr S H H') (h : ∀ b ∈ S, b ∈ S') : Fr S' H H' := fun b o e n => f b o e fun m => n (h b m)
theorem mem_as {l r : AT} {a b : Addr} : b ∈ (AT.node l a r).as ↔ b ∈ l.as ∨ b = a ∨ b ∈ r.as := by
  simp [AT.as]
theorem TR.keep {S : List Addr} {H H' : Hp} (f : Fr S H H') : ∀ {A : AT} {t : RT}, TR H A t → (∀ b ∈ A.as, b ∉ S) → TR H' A t
  | .nil, .nil, _, _ => trivial
  | .nil, .node _ _ _ _, h, _ => h.elim
  | .node _ _ _, .nil, h, _ => h.elim
  | .node al a ar, .node l k r y, ⟨h1, h2, h3⟩, n => ⟨f _ _ h1 (n a (mem_as.mpr (.inr (.inl rfl)))), TR.keep f h2 fun b m => n b (mem_as.mpr (.inl m)), TR.keep f h3 fun b m => n b (mem_as.mpr (.inr (.inr m)))⟩
theorem TR.same {H H' : Hp} (s : Same H H') {A : AT} {t : RT} (h : TR H A t) : TR H' A t := h.keep (S := []) (Fr.same s) fun _ _ => List.not_mem_nil
theorem TR.put {H : Hp} {a : Addr} {o : HO} {A : AT} {t : RT} (h : TR H A t) (n : a ∉ A.as) : TR (upd H a o) A t := h.keep (S := [a]) (Fr.put (List.mem_singleton.mpr rfl)) fun b m z => n (by rw [← List.mem_singleton.mp z]; exact m)
theorem TR.dom {H : Hp} : ∀ {A : AT} {t : RT}, TR H A t → ∀ b ∈ A.as, H b ≠ none
  | .nil, _, _, b, m => nomatch m
  | .node _ _ _, .nil, h, _, _ => h.elim
  | .node al a ar, .node l k r y, ⟨h1, h2, h3⟩, b, m => by
    rcases mem_as.mp m with m | m | m
    · exact TR.dom h2 b m
    · rw [m, h1]; exact fun z => by cases z
    · exact TR.dom h3 b m
theorem nd_node {l r : AT} {a : Addr} (h : (AT.node l a r).as.Nodup) : l.as.Nodup ∧ r.as.Nodup ∧ a ∉ l.as ∧ a ∉ r.as ∧ ∀ b ∈ l.as, b ∉ r.as := by
  have h : (l.as ++ a :: r.as).Nodup := h
  rw [List.nodup_append] at h
  obtain ⟨h1, h2, h3⟩ := h
  rw [List.nodup_cons] at h2
  exact ⟨h1, h2.2, fun m => h3 a m a List.mem_cons_self rfl, h2.1, fun b m m2 => h3 b m b (List.mem_cons_of_mem _ m2) rfl⟩
theorem nd_of {l r : AT} {a : Addr} (h1 : l.as.Nodup) (h2 : r.as.Nodup) (h3 : a ∉ l.as) (h4 : a ∉ r.as) (h5 : ∀ b ∈ l.as, b ∉ r.as) : (AT.node l a r).as.Nodup := by
  show (l.as ++ a :: r.as).Nodup
  rw [List.nodup_append]
  refine ⟨h1, List.nodup_cons.mpr ⟨h4, h2⟩, fun b m c m2 z => ?_⟩
  subst z
  rcases List.mem_cons.mp m2 with e | m2
  · exact h3 (by rw [← e]; exact m)
  · exact h5 b m m2
/-! ### as data -/
def encM : RT → D
  | .nil => .none
  | .node l k r y => .list [encM l, .int k, encM r, .int y]
@[simp] theorem encM_nil : encM .nil = .none := rfl
@[simp] theorem encM_node (l : RT) (k : Int) (r : RT) (y : Int) : encM (.node l k r y) = .list [encM l, .int k, encM r, .int y] := rfl
@[simp] theorem eqv_nn : PyData.eqv .none .none = true := rfl
@[simp] theorem eqv_ln {xs : List D} : PyData.eqv (.list xs) .none = false := rfl
@[simp] theorem eqv_M (t : RT) : PyData.eqv (encM t) .none = t.isNil := by cases t <;> rfl
theorem TR.rp {K : PySem.W.Frag} {H : Hp} : ∀ {A : AT} {t : RT}, TR H A t → Rp K H A.v (encM t)
  | .nil, .nil, _ => .non
  | .nil, .node _ _ _ _, h => h.elim
  | .node _ _ _, .nil, h => h.elim
  | .node al a ar, .node l k r y, ⟨h1, h2, h3⟩ => .lst h1 (.cons (TR.rp h2) (.cons (.int k) (.cons (TR.rp h3) (.cons (.int y) .nil))))
theorem at_0 {a b c d : V} : atI [a, b, c, d] 0 = some a := at_nat _ 0 a rfl
theorem at_1 {a b c d : V} : atI [a, b, c, d] 1 = some b := at_nat _ 1 b rfl
theorem at_2 {a b c d : V} : atI [a, b, c, d] 2 = some c := at_nat _ 2 c rfl
theorem at_3 {a b c d : V} : atI [a, b, c, d] 3 = some d := at_nat _ 3 d rfl
section
variable {P : Program} {w : World} {K : PySem.W.Frag} {mg : Str → Option Value} {base : Heap}
/-- what a def that changes a tree in place promises -/
def spTree (f : RT → RT) : Sp := fun vs H Q _ => ∃ A t, vs = [A.v] ∧ TR H A t ∧ A.as.Nodup ∧ ∀ A' H', TR H' A' (f t) → A'.as = A.as → Fr A.as H H' → Q A'.v H'
theorem len_tree {f : RT → RT} {p : Str} (vs : List V) (H : Hp) (Q : VK) (E : XK) (h : spTree f vs H Q E) : vs.length = [p].length := by
  obtain ⟨A, t, rfl, _⟩ := h
  rfl
abbrev nSk : List Str := ["_law_part_here", "_law_left"]
theorem sSk : FnScope nSk ["_law_part_here"] (defScope (topS 98)) := scopeB_ok (by decide +kernel)
theorem ok_skew (T : Tab K mg) {fd : FuncData} (F : FDef K "_law_skew" 98 fd) (n : Nat) : FnOk P w K mg base CX0 (n + 1) (He.ga K "_law_skew") fd ["_law_part_here"] (spTree skew) := by
  refine F.ok sSk len_tree (fun cdv A outer s H vs Q E hr h => ?_)
  obtain ⟨A, t, rfl, ht, hn, q⟩ := h
  have ok := hand_sok0 (P := P) (w := w) (base := base) T sSk (outer := outer) (H := H) (E := E) hr
  refine ⟨_, (pss_cons (ps_if (sT ok (.and (.notN (.var 0)) (.and (.notN (.b2 .ix (.var 0) (.cst (.int 0)))) (.b2 .eq (.b2 .ix (.b2 .ix (.var 0) (.cst (.int 0))) (.cst (.int 3))) (.b2 .ix (.var 0) (.cst (.int 3)))))) rfl (by decide +kernel))
      (pss_cons (ps_set (i := 1) sSk.nd rfl (Or.inl rfl) (pe_ix ix_list (pv 0) pe_int (fun _ _ => rfl)))
        (pss_cons (ps_asg (pe_ix ix_list (pv 1) pe_int (fun _ _ => rfl)) (pg_sub (pv 0) pe_int set_list))
          (pss_cons (ps_asg (pv 0) (pg_sub (pv 1) pe_int set_list))
            (pss_one (ps_ret (pv 1)))))) pss_nil)
    (pss_one (ps_ret (pv 0)))).nox, ?_⟩
  have no : ∀ H1, Same H H1 → skew t = t → Q A.v H1 := fun H1 s1 e => q A H1 (by rw [e]; exact ht.same s1) rfl (Fr.same s1)
  have E1 : EnvR K H [some A.v, none] [some (encM t), none] := envR_cons ht.rp (envR_skip envR_nil)
  cases t with
  | nil =>
    refine ⟨_, false, E1, by simp, fun H1 s1 => ?_⟩
    refine (if_neg Bool.false_ne_true).mpr ?_
    exact ⟨_, rfl, no H1 s1 rfl⟩
  | node l k r y =>
    cases l with
    | nil =>
      refine ⟨_, false, E1, by simp, fun H1 s1 => ?_⟩
      refine (if_neg Bool.false_ne_true).mpr ?_
      exact ⟨_, rfl, no H1 s1 rfl⟩
    | node a j b x =>
      refine ⟨_, decide (x = y), E1, by simp, fun H1 s1 => ?_⟩
      by_cases c : x = y
      · refine (if_pos (decide_eq_true c)).mpr ?_
        have ht := ht.same s1
        cases A with
        | nil => exact ht.elim
        | node al p ar =>
          cases al with
          | nil => exact ht.2.1.elim
          | node aa p2 ab =>
            obtain ⟨h1, ⟨h2, h3, h4⟩, h5⟩ := ht
            obtain ⟨n1, n2, n3, n4, n5⟩ := nd_node hn
            obtain ⟨m1, m2, m3, m4, m5⟩ := nd_node n1
            have hp : p2 ≠ p := fun z => n3 (mem_as.mpr (.inr (.inl z.symm)))
            refine ⟨_, rfl, p, _, 0, _, rfl, rfl, SqL.of h1, at_0, ?_⟩
            refine ⟨_, rfl, p2, _, 2, _, rfl, rfl, SqL.of h2, at_2, ?_⟩
            refine ⟨_, rfl, p, _, 0, 0, rfl, rfl, h1, rfl, ?_⟩
            refine ⟨_, rfl, _, rfl, p2, _, 2, 2, rfl, rfl, (upd_ne hp).trans h2, rfl, ?_⟩
            refine ⟨_, rfl, ?_⟩
            refine q (.node aa p2 (.node ab p ar)) _ ?_ ?_ ?_
            · rw [show skew (.node (.node a j b x) k r y) = .node a j (.node b k r y) x from if_pos c]
              have g : ∀ {C : AT} {u : RT}, TR H1 C u → p ∉ C.as → p2 ∉ C.as → TR (upd (upd H1 p (.lst ([AT.v (.node aa p2 ab), .int k, ar.v, .int y].set 0 ab.v))) p2 (.lst ([aa.v, .int j, ab.v, .int x].set 2 (.ref p)))) C u :=
                fun h k1 k2 => (h.put k1).put k2
              refine ⟨upd_same, g h3 (fun z => n3 (mem_as.mpr (.inl z))) m3, ⟨(upd_ne (fun z => hp z.symm)).trans upd_same, g h4 (fun z => n3 (mem_as.mpr (.inr (.inr z)))) m4, g h5 n4 (fun z => n5 p2 (mem_as.mpr (.inr (.inl rfl))) z)⟩⟩
            · simp [AT.as]
            · exact ((Fr.same s1).trans (Fr.put (mem_as.mpr (.inr (.inl rfl)))) fun b m => .inl m).trans (Fr.put (mem_as.mpr (.inl (mem_as.mpr (.inr (.inl rfl)))))) fun b m => .inl m
      · refine (if_neg (by rw [decide_eq_false c]; exact Bool.false_ne_true)).mpr ?_
        exact ⟨_, rfl, no H1 s1 (if_neg c)⟩
abbrev nSp : List Str := ["_law_part_here", "_law_right"]
theorem sSp : FnScope nSp ["_law_part_here"] (defScope (topS 99)) := scopeB_ok (by decide +kernel)
theorem ok_split (T : Tab K mg) {fd : FuncData} (F : FDef K "_law_split" 99 fd) (n : Nat) : FnOk P w K mg base CX0 (n + 1) (He.ga K "_law_split") fd ["_law_part_here"] (spTree split) := by
  refine F.ok sSp len_tree (fun cdv A outer s H vs Q E hr h => ?_)
  obtain ⟨A, t, rfl, ht, hn, q⟩ := h
  have ok := hand_sok0 (P := P) (w := w) (base := base) T sSp (outer := outer) (H := H) (E := E) hr
  refine ⟨_, (pss_cons (ps_if (sT ok (.and (.notN (.var 0)) (.and (.notN (.b2 .ix (.var 0) (.cst (.int 2)))) (.and (.notN (.b2 .ix (.b2 .ix (.var 0) (.cst (.int 2))) (.cst (.int 2)))) (.b2 .eq (.b2 .ix (.b2 .ix (.b2 .ix (.var 0) (.cst (.int 2))) (.cst (.int 2))) (.cst (.int 3))) (.b2 .ix (.var 0) (.cst (.int 3))))))) rfl (by decide +kernel))
      (pss_cons (ps_set (i := 1) sSp.nd rfl (Or.inl rfl) (pe_ix ix_list (pv 0) pe_int (fun _ _ => rfl)))
        (pss_cons (ps_asg (pe_ix ix_list (pv 1) pe_int (fun _ _ => rfl)) (pg_sub (pv 0) pe_int set_list))
          (pss_cons (ps_asg (pv 0) (pg_sub (pv 1) pe_int set_list))
            (pss_cons (ps_asg (pe_op op_add (pe_ix ix_list (pv 1) pe_int (fun _ _ => rfl)) pe_int) (pg_sub (pv 1) pe_int set_list))
              (pss_one (ps_ret (pv 1))))))) pss_nil)
    (pss_one (ps_ret (pv 0)))).nox, ?_⟩
  have no : ∀ H1, Same H H1 → split t = t → Q A.v H1 := fun H1 s1 e => q A H1 (by rw [e]; exact ht.same s1) rfl (Fr.same s1)
  have E1 : EnvR K H [some A.v, none] [some (encM t), none] := envR_cons ht.rp (envR_skip envR_nil)
  cases t with
  | nil =>
    refine ⟨_, false, E1, by simp, fun H1 s1 => ?_⟩
    refine (if_neg Bool.false_ne_true).mpr ?_
    exact ⟨_, rfl, no H1 s1 rfl⟩
  | node l k r y =>
    cases r with
    | nil =>
      refine ⟨_, false, E1, by simp, fun H1 s1 => ?_⟩
      refine (if_neg Bool.false_ne_true).mpr ?_
      exact ⟨_, rfl, no H1 s1 rfl⟩
    | node a j cc x =>
      cases cc with
      | nil =>
        refine ⟨_, false, E1, by simp, fun H1 s1 => ?_⟩
        refine (if_neg Bool.false_ne_true).mpr ?_
        exact ⟨_, rfl, no H1 s1 rfl⟩
      | node b i d z =>
        refine ⟨_, decide (z = y), E1, by simp, fun H1 s1 => ?_⟩
        by_cases c : z = y
        · refine (if_pos (decide_eq_true c)).mpr ?_
          have ht := ht.same s1
          cases A with
          | nil => exact ht.elim
          | node al p ar =>
            cases ar with
            | nil => exact ht.2.2.elim
            | node aa p2 ac =>
              obtain ⟨h1, h5, ⟨h2, h3, h4⟩⟩ := ht
              obtain ⟨n1, n2, n3, n4, n5⟩ := nd_node hn
              obtain ⟨m1, m2, m3, m4, m5⟩ := nd_node n2
              have hp : p2 ≠ p := fun z => n4 (mem_as.mpr (.inr (.inl z.symm)))
              refine ⟨_, rfl, p, _, 2, _, rfl, rfl, SqL.of h1, at_2, ?_⟩
              refine ⟨_, rfl, p2, _, 0, _, rfl, rfl, SqL.of h2, at_0, ?_⟩
              refine ⟨_, rfl, p, _, 2, 2, rfl, rfl, h1, rfl, ?_⟩
              refine ⟨_, rfl, _, rfl, p2, _, 0, 0, rfl, rfl, (upd_ne hp).trans h2, rfl, ?_⟩
              refine ⟨_, rfl, p2, _, 3, _, rfl, rfl, SqL.of upd_same, at_3, _, _, rfl, rfl, ?_⟩
              refine ⟨_, rfl, p2, _, 3, 3, rfl, rfl, upd_same, rfl, ?_⟩
              refine ⟨_, rfl, ?_⟩
              refine q (.node (.node al p aa) p2 ac) _ ?_ ?_ ?_
              · rw [show split (.node l k (.node a j (.node b i d z) x) y) = .node (.node l k a y) j (.node b i d z) (x + 1) from if_pos c]
                have g : ∀ {C : AT} {u : RT} {o1 o2 o3 : HO}, TR H1 C u → p ∉ C.as → p2 ∉ C.as → TR (upd (upd (upd H1 p o1) p2 o2) p2 o3) C u :=
                  fun h k1 k2 => ((h.put k1).put k2).put k2
                refine ⟨upd_same, ⟨(upd_ne (fun z => hp z.symm)).trans ((upd_ne (fun z => hp z.symm)).trans upd_same), g h5 n3 (fun z => n5 p2 z (mem_as.mpr (.inr (.inl rfl)))), g h3 (fun z => n4 (mem_as.mpr (.inl z))) m3⟩, g h4 (fun z => n4 (mem_as.mpr (.inr (.inr z)))) m4⟩
              · simp [AT.as]
              · have k2 : p2 ∈ (AT.node al p (.node aa p2 ac)).as := mem_as.mpr (.inr (.inr (mem_as.mpr (.inr (.inl rfl)))))
                exact (((Fr.same s1).trans (Fr.put (mem_as.mpr (.inr (.inl rfl)))) fun b m => .inl m).trans (Fr.put k2) fun b m => .inl m).trans (Fr.put k2) fun b m => .inl m
        · refine (if_neg (by rw [decide_eq_false c]; exact Bool.false_ne_true)).mpr ?_
          exact ⟨_, rfl, no H1 s1 (if_neg c)⟩
end
end TT
set_option Elab.async false
set_option linter.all false
set_option maxRecDepth 100000
set_option maxHeartbeats 4000000
/-! Levels 2: made, read, put in. -/
namespace TT
open PySem PySem.Spec PyProof.Rows L2
section
variable {P : Program} {w : World} {K : PySem.W.Frag} {mg : Str → Option Value} {base : Heap}
/-- a callee: its def's record, how it is called, its promise -/
structure Cl1 (P : Program) (w : World) (K : PySem.W.Frag) (mg : Str → Option Value) (base : Heap) (n : Nat) (x : Str) (ps : List Str) (sp : Sp) : Prop where
  ex : ∃ fd, Binds K fd ps [] ∧ PySem.W.keepIn K (.ref (He.ga K x)) = true ∧ mg x = some (.ref (He.ga K x)) ∧ FnOk P w K mg base CX0 n (He.ga K x) fd ps sp
theorem Cl1.mono {m n : Nat} {x : Str} {ps : List Str} {sp : Sp} (c : Cl1 P w K mg base m x ps sp) (h : m ≤ n) : Cl1 P w K mg base n x ps sp := by
  obtain ⟨fd, h1, h2, h3, h4⟩ := c.ex
  exact ⟨fd, h1, h2, h3, h4.mono h⟩
/-! ### ranked -/
def spRk (K : PySem.W.Frag) (n : Nat) : Sp := fun vs H Q _ => ∃ v t, vs = [v] ∧ Rp K H v (enc t) ∧ t.ht < n ∧ ∀ A H', Same H H' → TR H' A (ranked t) → A.as.Nodup → (∀ b ∈ A.as, H b = none) → Q A.v H'
abbrev nRk : List Str := ["_law_shape", "_law_left"]
theorem sRk : FnScope nRk ["_law_shape"] (defScope (topS 96)) := scopeB_ok (by decide +kernel)
theorem ranked_rk (l : T) (k : Int) (r : T) : ranked (.node l k r) = .node (ranked l) k (ranked r) ((ranked l).rk + 1) := rfl
theorem c_rk_ (T : Tab K mg) : ∀ n, Cl1 P w K mg base n "_law_ranked" ["_law_shape"] (spRk K n)
  | 0 => by
    obtain ⟨fd, F⟩ := T.def_ 78 (x := "_law_ranked") (i := 96) rfl
    refine ⟨fd, bind1 F fun _ _ _ _ _ _ _ => rfl, F.kp, T.glo 78 rfl, ⟨fun vs H Q E h => ?_, fun A outer s H args us vs Q E _ _ _ _ h => ?_⟩⟩
    · obtain ⟨v, t, _, _, h, _⟩ := h; omega
    · obtain ⟨v, t, _, _, h, _⟩ := h; omega
  | n + 1 => by
    obtain ⟨fd, F⟩ := T.def_ 78 (x := "_law_ranked") (i := 96) rfl
    refine ⟨fd, bind1 F fun _ _ _ _ _ _ _ => rfl, F.kp, T.glo 78 rfl, F.ok sRk (fun vs H Q E h => ?_) (fun cdv A outer s H vs Q E hr h => ?_)⟩
    · obtain ⟨v, t, rfl, _⟩ := h
      rfl
    obtain ⟨gd, g1, g2, g3, G⟩ := (c_rk_ T n).ex
    obtain ⟨v, t, rfl, rt, hh, q⟩ := h
    have ok := hand_sok0 (P := P) (w := w) (base := base) T sRk (outer := outer) (H := H) (E := E) hr
    refine ⟨_, (pss_cons (ps_if (sT ok (.b2 .eq (.var 0) (.tup .nil)) rfl (by decide +kernel)) (pss_one (ps_ret pe_non)) pss_nil)
      (pss_cons (ps_set (i := 1) sRk.nd rfl (Or.inl rfl) (pe_call (x := "_law_ranked") G hr rfl g3 g2 g1 .nil pass0 (pa_cons (sE ok (.b2 .ix (.var 0) (.cst (.int 0))) (by decide +kernel)) pa_nil)))
        (pss_one (ps_ret (pe_lst (pa_cons (pv 1) (pa_cons (sE ok (.b2 .ix (.var 0) (.cst (.int 1))) (by decide +kernel)) (pa_cons (pe_call (x := "_law_ranked") G hr rfl g3 g2 g1 .nil pass0 (pa_cons (sE ok (.b2 .ix (.var 0) (.cst (.int 2))) (by decide +kernel)) pa_nil))
          (pa_cons (sE ok (.ite (.isN (.var 1)) (.cst (.int 1)) (.b2 .add (.b2 .ix (.var 1) (.cst (.int 3))) (.cst (.int 1)))) (by decide +kernel)) pa_nil))))))))).nox, ?_⟩
    have E1 : EnvR K H [some v, none] [some (enc t), none] := envR_cons rt (envR_skip envR_nil)
    refine ⟨_, t.isNil, E1, by simp, fun H1 s1 => ?_⟩
    cases t with
    | nil =>
      refine (if_pos rfl).mpr ?_
      exact q .nil H1 s1 trivial List.nodup_nil (fun b m => nomatch m)
    | node l k r =>
      refine (if_neg Bool.false_ne_true).mpr ?_
      simp only [TT.T.ht] at hh
      refine ⟨_, enc l, E1.mono s1, by simp, fun vl H2 s2 rl => ?_⟩
      refine ⟨vl, l, rfl, rl, by omega, fun A1 H3 s3 t1 n1 f1 => ?_⟩
      have s13 := s1.trans (s2.trans s3)
      have E3 : EnvR K H3 [some v, some A1.v] [some (enc (.node l k r)), some (encM (ranked l))] := envR_cons (rt.mono s13) (envR_cons t1.rp envR_nil)
      refine ⟨_, rfl, _, .int k, E3, by simp, fun vk H4 s4 rk => ?_⟩
      cases rk.intI
      refine ⟨_, enc r, E3.mono s4, by simp, fun vr H5 s5 rr => ?_⟩
      refine ⟨vr, r, rfl, rr, by omega, fun A2 H6 s6 t2 n2 f2 => ?_⟩
      have s36 := s4.trans (s5.trans s6)
      refine ⟨_, .int ((ranked l).rk + 1), E3.mono s36, ?_, fun vy H7 s7 ry => ?_⟩
      · cases h : ranked l with
        | nil => simp [RT.rk]
        | node _ _ _ _ => simp [RT.rk]
      cases ry.intI
      refine ⟨(by show 4 ≤ sizeLine; decide), fun p np => ?_⟩
      have s17 := s36.trans s7
      have t1' := t1.same s17
      have t2' := t2.same s7
      have pn : ∀ {C : AT} {u : RT}, TR H7 C u → p ∉ C.as := fun h m => h.dom p m np
      refine q (.node A1 p A2) _ (s13.trans (s17.trans (same_upd np))) ?_ ?_ ?_
      · rw [ranked_rk]
        exact ⟨upd_same, t1'.put (pn t1'), t2'.put (pn t2')⟩
      · exact nd_of n1 n2 (pn t1') (pn t2') fun b m m2 => (t1.same (s4.trans s5)).dom b m (f2 b m2)
      · have up : ∀ {Ha Hb : Hp}, Same Ha Hb → ∀ b, Hb b = none → Ha b = none := fun {Ha Hb} s b h => by
          cases z : Ha b with
          | none => rfl
          | some o => rw [s _ _ z] at h; cases h
        intro b m
        rcases mem_as.mp m with m | m | m
        · exact up (s1.trans s2) b (f1 b m)
        · rw [m]; exact up (s13.trans s17) p np
        · exact up (s13.trans (s4.trans s5)) b (f2 b m)
/-! ### bare -/
def spBare (K : PySem.W.Frag) (n : Nat) : Sp := fun vs H Q _ => ∃ v t, vs = [v] ∧ Rp K H v (encM t) ∧ t.ht < n ∧ QOk K H (enc (bare t)) Q
abbrev nBa : List Str := ["_law_part_here", "_law_left", "_law_right"]
theorem sBa : FnScope nBa ["_law_part_here"] (defScope (topS 97)) := scopeB_ok (by decide +kernel)
theorem c_bare_ (T : Tab K mg) : ∀ n, Cl1 P w K mg base n "_law_bare" ["_law_part_here"] (spBare K n)
  | 0 => by
    obtain ⟨fd, F⟩ := T.def_ 79 (x := "_law_bare") (i := 97) rfl
    refine ⟨fd, bind1 F fun _ _ _ _ _ _ _ => rfl, F.kp, T.glo 79 rfl, ⟨fun vs H Q E h => ?_, fun A outer s H args us vs Q E _ _ _ _ h => ?_⟩⟩
    · obtain ⟨v, t, _, _, h, _⟩ := h; omega
    · obtain ⟨v, t, _, _, h, _⟩ := h; omega
  | n + 1 => by
    obtain ⟨fd, F⟩ := T.def_ 79 (x := "_law_bare") (i := 97) rfl
    refine ⟨fd, bind1 F fun _ _ _ _ _ _ _ => rfl, F.kp, T.glo 79 rfl, F.ok sBa (fun vs H Q E h => ?_) (fun cdv A outer s H vs Q E hr h => ?_)⟩
    · obtain ⟨v, t, rfl, _⟩ := h
      rfl
    obtain ⟨gd, g1, g2, g3, G⟩ := (c_bare_ T n).ex
    obtain ⟨v, t, rfl, rt, hh, q⟩ := h
    have ok := hand_sok0 (P := P) (w := w) (base := base) T sBa (outer := outer) (H := H) (E := E) hr
    refine ⟨_, (pss_cons (ps_if (sT ok (.isN (.var 0)) rfl (by decide +kernel)) (pss_one (ps_ret (sE ok (.tup .nil) (by decide +kernel)))) pss_nil)
      (pss_cons (ps_par (i := 1) (j := 2) rfl sBa.nd rfl rfl (by decide) rfl rfl (pa_cons (pe_call (x := "_law_bare") G hr rfl g3 g2 g1 .nil pass0 (pa_cons (sE ok (.b2 .ix (.var 0) (.cst (.int 0))) (by decide +kernel)) pa_nil)) (pa_cons (pe_call (x := "_law_bare") G hr rfl g3 g2 g1 .nil pass0 (pa_cons (sE ok (.b2 .ix (.var 0) (.cst (.int 2))) (by decide +kernel)) pa_nil)) pa_nil)) (by rfl))
        (pss_one (ps_ret (sE ok (.tup (.cons (.var 1) (.cons (.b2 .ix (.var 0) (.cst (.int 1))) (.cons (.var 2) .nil)))) (by decide +kernel)))))).nox, ?_⟩
    have E1 : EnvR K H [some v, none, none] [some (encM t), none, none] := envR_cons rt (envR_skip (envR_skip envR_nil))
    refine ⟨_, t.isNil, E1, by simp, fun H1 s1 => ?_⟩
    cases t with
    | nil =>
      refine (if_pos rfl).mpr ?_
      exact ⟨_, enc .nil, E1.mono s1, by simp, fun u H' s r => q u H' (s1.trans s) r⟩
    | node l k r y =>
      refine (if_neg Bool.false_ne_true).mpr ?_
      simp only [RT.ht] at hh
      refine ⟨_, encM l, E1.mono s1, by simp, fun vl H2 s2 rl => ?_⟩
      refine ⟨vl, l, rfl, rl, by omega, fun ul H3 s3 rl' => ?_⟩
      refine ⟨_, encM r, E1.mono (s1.trans (s2.trans s3)), by simp, fun vr H4 s4 rr => ?_⟩
      refine ⟨vr, r, rfl, rr, by omega, fun ur H5 s5 rr' => ?_⟩
      have s15 := s1.trans (s2.trans (s3.trans (s4.trans s5)))
      have E5 : EnvR K H5 [some v, some ul, some ur] [some (encM (.node l k r y)), some (enc (bare l)), some (enc (bare r))] := envR_cons (rt.mono s15) (envR_cons (rl'.mono (s4.trans s5)) (envR_cons rr' envR_nil))
      refine ⟨_, _, rfl, ?_⟩
      exact ⟨_, enc (bare (.node l k r y)), E5, by simp [bare], fun u H' s r => q u H' (s15.trans s) r⟩
/-! ### put in -/
def spIn (n : Nat) : Sp := fun vs H Q _ => ∃ A t k, vs = [A.v, .int k] ∧ TR H A t ∧ A.as.Nodup ∧ t.ht + 2 ≤ n ∧ ∀ A' H', TR H' A' (putIn t k) → A'.as.Nodup → (∀ b ∈ A'.as, b ∈ A.as ∨ H b = none) → Fr A.as H H' → Q A'.v H'
theorem c_skew_ (T : Tab K mg) (n : Nat) : Cl1 P w K mg base (n + 1) "_law_skew" ["_law_part_here"] (spTree skew) := by
  obtain ⟨fd, F⟩ := T.def_ 80 (x := "_law_skew") (i := 98) rfl
  exact ⟨fd, bind1 F fun _ _ _ _ _ _ _ => rfl, F.kp, T.glo 80 rfl, ok_skew T F n⟩
theorem c_split_ (T : Tab K mg) (n : Nat) : Cl1 P w K mg base (n + 1) "_law_split" ["_law_part_here"] (spTree split) := by
  obtain ⟨fd, F⟩ := T.def_ 81 (x := "_law_split") (i := 99) rfl
  exact ⟨fd, bind1 F fun _ _ _ _ _ _ _ => rfl, F.kp, T.glo 81 rfl, ok_split T F n⟩
abbrev nIn : List Str := ["_law_part_here", "_law_key", "_law_side"]
theorem sIn : FnScope nIn ["_law_part_here", "_law_key"] (defScope (topS 100)) := scopeB_ok (by decide +kernel)
theorem c_in_ (T : Tab K mg) : ∀ n, Cl1 P w K mg base n "_law_level_in" ["_law_part_here", "_law_key"] (spIn n)
  | 0 => by
    obtain ⟨fd, F⟩ := T.def_ 82 (x := "_law_level_in") (i := 100) rfl
    refine ⟨fd, bind2 F fun _ _ _ _ _ _ _ _ => rfl, F.kp, T.glo 82 rfl, ⟨fun vs H Q E h => ?_, fun A outer s H args us vs Q E _ _ _ _ h => ?_⟩⟩
    · obtain ⟨v, t, k, _, _, _, h, _⟩ := h; omega
    · obtain ⟨v, t, k, _, _, _, h, _⟩ := h; omega
  | 1 => by
    obtain ⟨fd, F⟩ := T.def_ 82 (x := "_law_level_in") (i := 100) rfl
    refine ⟨fd, bind2 F fun _ _ _ _ _ _ _ _ => rfl, F.kp, T.glo 82 rfl, ⟨fun vs H Q E h => ?_, fun A outer s H args us vs Q E _ _ _ _ h => ?_⟩⟩
    · obtain ⟨v, t, k, _, _, _, h, _⟩ := h; omega
    · obtain ⟨v, t, k, _, _, _, h, _⟩ := h; omega
  | n + 2 => by
    obtain ⟨fd, F⟩ := T.def_ 82 (x := "_law_level_in") (i := 100) rfl
    refine ⟨fd, bind2 F fun _ _ _ _ _ _ _ _ => rfl, F.kp, T.glo 82 rfl, F.ok sIn (fun vs H Q E h => ?_) (fun cdv A outer s H vs Q E hr h => ?_)⟩
    · obtain ⟨v, t, k, rfl, _⟩ := h
      rfl
    obtain ⟨gd, g1, g2, g3, G⟩ := (c_in_ T (n + 1)).ex
    obtain ⟨kd, k1, k2, k3, GK⟩ := (c_skew_ (P := P) (w := w) (base := base) T n).ex
    obtain ⟨pd, p1, p2, p3, GP⟩ := (c_split_ (P := P) (w := w) (base := base) T n).ex
    obtain ⟨A, t, k, rfl, ht, hn, hh, q⟩ := h
    have ok := hand_sok0 (P := P) (w := w) (base := base) T sIn (outer := outer) (H := H) (E := E) hr
    refine ⟨_, (pss_cons (ps_if (sT ok (.isN (.var 0)) rfl (by decide +kernel)) (pss_one (ps_ret (pe_lst (pa_cons pe_non (pa_cons (pv 1) (pa_cons pe_non (pa_cons pe_int pa_nil))))))) pss_nil)
      (pss_cons (ps_set (i := 2) sIn.nd rfl (Or.inl rfl) (sE ok (.ite (.b2 .lt (.var 1) (.b2 .ix (.var 0) (.cst (.int 1)))) (.cst (.int 0)) (.cst (.int 2))) (by decide +kernel)))
        (pss_cons (ps_asg (pe_call (x := "_law_level_in") G hr rfl g3 g2 g1 .nil pass0 (pa_cons (pe_ix ix_list (pv 0) (pv 2) (fun _ _ => rfl)) (pa_cons (pv 1) pa_nil))) (pg_sub (pv 0) (pv 2) set_list))
          (pss_one (ps_ret (pe_call (x := "_law_split") GP hr rfl p3 p2 p1 .nil pass0 (pa_cons (pe_call (x := "_law_skew") GK hr rfl k3 k2 k1 .nil pass0 (pa_cons (pv 0) pa_nil)) pa_nil))))))).nox, ?_⟩
    have E1 : EnvR K H [some A.v, some (.int k), none] [some (encM t), some (.int k), none] := envR_cons ht.rp (envR_cons (.int k) (envR_skip envR_nil))
    refine ⟨_, t.isNil, E1, by simp, fun H1 s1 => ?_⟩
    cases t with
    | nil =>
      refine (if_pos rfl).mpr ?_
      refine ⟨_, rfl, (by show 4 ≤ sizeLine; decide), fun p np => ?_⟩
      have np0 : H p = none := by
        cases z : H p with
        | none => rfl
        | some o => rw [s1 _ _ z] at np; cases np
      refine q (.node .nil p .nil) _ ⟨upd_same, trivial, trivial⟩ (nd_of List.nodup_nil List.nodup_nil (fun m => nomatch m) (fun m => nomatch m) (fun b m => nomatch m)) (fun b m => ?_) (Fr.same (s1.trans (same_upd np)))
      rcases mem_as.mp m with m | m | m
      · cases m
      · exact .inr (by rw [m]; exact np0)
      · cases m
    | node l x r y =>
      refine (if_neg Bool.false_ne_true).mpr ?_
      simp only [RT.ht] at hh
      cases A with
      | nil => exact ht.elim
      | node al p ar =>
        obtain ⟨n1, n2, n3, n4, n5⟩ := nd_node hn
        obtain ⟨c1, c2, c3⟩ := ht.same s1
        have pdom : H1 p ≠ none := by rw [c1]; exact fun z => by cases z
        -- the end, on either side
        have fin : ∀ (B : AT) (u : RT) (H3 : Hp), TR H3 B u → B.as.Nodup → (∀ b ∈ B.as, b ∈ (AT.node al p ar).as ∨ H b = none) → Fr (AT.node al p ar).as H H3 → B.v = .ref p → split (skew u) = putIn (.node l x r y) k →
            ∃ A2 t2, [V.ref p] ++ ([] : List V) = [A2.v] ∧ TR H3 A2 t2 ∧ A2.as.Nodup ∧ ∀ A3 H4, TR H4 A3 (skew t2) → A3.as = A2.as → Fr A2.as H3 H4 → ∃ A4 t4, [A3.v] ++ ([] : List V) = [A4.v] ∧ TR H4 A4 t4 ∧ A4.as.Nodup ∧ ∀ A5 H5, TR H5 A5 (split t4) → A5.as = A4.as → Fr A4.as H4 H5 → Q A5.v H5 := by
          intro B u H3 tb nb sb fb vb e
          refine ⟨B, u, by rw [vb]; rfl, tb, nb, fun A3 H4 t3 a3 f3 => ⟨A3, skew u, rfl, t3, by rw [a3]; exact nb, fun A5 H5 t5 a5 f5 => ?_⟩⟩
          refine q A5 H5 (by rw [← e]; exact t5) (by rw [a5, a3]; exact nb) (fun b m => sb b (by rw [a5, a3] at m; exact m)) ?_
          exact (fb.trans f3 sb).trans f5 fun b m => sb b (by rw [a3] at m; exact m)
        by_cases c : k < x
        · refine ⟨_, .int 0, E1.mono s1, by simp [c], fun v2 H2 s2 r2 => ?_⟩
          cases r2.intI
          obtain ⟨d1, d2, d3⟩ := TR.same s2 (A := .node al p ar) (t := .node l x r y) ⟨c1, c2, c3⟩
          refine ⟨_, rfl, _, rfl, p, _, 0, _, rfl, rfl, SqL.of d1, at_0, _, rfl, ?_⟩
          refine ⟨al, l, k, rfl, d2, n1, by omega, fun A1 H3 t1 m1 m2 f1 => ?_⟩
          have d1' := f1 _ _ d1 n3
          have pn1 : p ∉ A1.as := fun m => by
            rcases m2 p m with m | m
            · exact n3 m
            · rw [d1] at m; cases m
          have d3' : TR H3 ar r := d3.keep f1 fun b m m2 => n5 b m2 m
          refine ⟨_, rfl, _, rfl, p, _, 0, 0, rfl, rfl, d1', rfl, ?_⟩
          refine ⟨_, rfl, fin (.node A1 p ar) (.node (putIn l k) x r y) _ ⟨upd_same, t1.put pn1, d3'.put n4⟩ ?_ ?_ ?_ rfl ?_⟩
          · refine nd_of m1 n2 pn1 n4 fun b m m3 => ?_
            rcases m2 b m with m | m
            · exact n5 b m m3
            · exact d3.dom b m3 m
          · intro b m
            rcases mem_as.mp m with m | m | m
            · rcases m2 b m with m | m
              · exact .inl (mem_as.mpr (.inl m))
              · refine .inr ?_
                cases z : H b with
                | none => rfl
                | some o => rw [s2 _ _ (s1 _ _ z)] at m; cases m
            · exact .inl (mem_as.mpr (.inr (.inl m)))
            · exact .inl (mem_as.mpr (.inr (.inr m)))
          · exact ((Fr.same (s1.trans s2)).trans f1 fun b m => .inl (mem_as.mpr (.inl m))).trans (Fr.put (List.mem_singleton.mpr rfl)) fun b m => .inl (by rw [List.mem_singleton.mp m]; exact mem_as.mpr (.inr (.inl rfl)))
          · exact (if_pos c).symm
        · refine ⟨_, .int 2, E1.mono s1, by simp [c], fun v2 H2 s2 r2 => ?_⟩
          cases r2.intI
          obtain ⟨d1, d2, d3⟩ := TR.same s2 (A := .node al p ar) (t := .node l x r y) ⟨c1, c2, c3⟩
          refine ⟨_, rfl, _, rfl, p, _, 2, _, rfl, rfl, SqL.of d1, at_2, _, rfl, ?_⟩
          refine ⟨ar, r, k, rfl, d3, n2, by omega, fun A1 H3 t1 m1 m2 f1 => ?_⟩
          have d1' := f1 _ _ d1 n4
          have pn1 : p ∉ A1.as := fun m => by
            rcases m2 p m with m | m
            · exact n4 m
            · rw [d1] at m; cases m
          have d2' : TR H3 al l := d2.keep f1 fun b m m2 => n5 b m m2
          refine ⟨_, rfl, _, rfl, p, _, 2, 2, rfl, rfl, d1', rfl, ?_⟩
          refine ⟨_, rfl, fin (.node al p A1) (.node l x (putIn r k) y) _ ⟨upd_same, d2'.put n3, t1.put pn1⟩ ?_ ?_ ?_ rfl ?_⟩
          · refine nd_of n1 m1 n3 pn1 fun b m m3 => ?_
            rcases m2 b m3 with m3 | m3
            · exact n5 b m m3
            · exact d2.dom b m m3
          · intro b m
            rcases mem_as.mp m with m | m | m
            · exact .inl (mem_as.mpr (.inl m))
            · exact .inl (mem_as.mpr (.inr (.inl m)))
            · rcases m2 b m with m | m
              · exact .inl (mem_as.mpr (.inr (.inr m)))
              · refine .inr ?_
                cases z : H b with
                | none => rfl
                | some o => rw [s2 _ _ (s1 _ _ z)] at m; cases m
          · exact ((Fr.same (s1.trans s2)).trans f1 fun b m => .inl (mem_as.mpr (.inr (.inr m)))).trans (Fr.put (List.mem_singleton.mpr rfl)) fun b m => .inl (by rw [List.mem_singleton.mp m]; exact mem_as.mpr (.inr (.inl rfl)))
          · exact (if_neg c).symm
end
end TT
set_option Elab.async false
set_option linter.all false
set_option maxRecDepth 100000
set_option maxHeartbeats 4000000
/-! Levels 3: set back, taken out. -/
namespace TT
open PySem PySem.Spec PyProof.Rows L2
/-! ### name = [.. for x in (a, b)] -/
theorem lc_readT {X : Cx} {i0 : Nat} {ts : TE} {tt : TT} {te : TE} {fs fe : Rho → Option D} {fc : Rho → Option Bool} (qs : ∀ (σ : L2.St) (H : Hp) (ρ : Rho) (d : D) (Q : VK), EnvR X.K H σ ρ → fs ρ = some d → QOk X.K H d Q → ts σ H Q)
    (qt : ∀ (σ : L2.St) (H : Hp) (ρ : Rho) (b : Bool) (Q : Bool → Hp → Prop), EnvR X.K H σ ρ → fc ρ = some b → (∀ H', Same H H' → Q b H') → tt σ H Q) (qe : ∀ (σ : L2.St) (H : Hp) (ρ : Rho) (d : D) (Q : VK), EnvR X.K H σ ρ → fe ρ = some d → QOk X.K H d Q → te σ H Q)
    (σ : L2.St) (H : Hp) (ρ : Rho) (d : D) (Q : VK) (E : EnvR X.K H σ ρ) (h : ((fs ρ).bind fun x => (asT x).bind fun ds => if ds.length ≤ 1000 then (compGo (fun d => fc (setE ρ i0 d)) (fun d => fe (setE ρ i0 d)) ds).bind fun ys => some (.list ys) else none) = some d)
    (q : QOk X.K H d Q) : tLc (iTup X.K ts) (gName i0) tt te [i0] σ H Q := by
  obtain ⟨z, hz, h⟩ := bind_some h
  obtain ⟨ds, hds, h9⟩ := bind_some h
  cases asT_some hds
  split at h9
  · rename_i hlen
    obtain ⟨ys, hys, h8⟩ := bind_some h9
    cases h8
    refine qs σ H ρ _ _ E hz fun v H1 s1 r1 => ?_
    obtain ⟨a, xs, rfl, ha, rx⟩ := r1.tupI
    refine ⟨a, rfl, ⟨xs, ha⟩, fun Dl nD => ?_⟩
    refine lc_tup (K := X.K) (a := a) (xs := xs) (fun i H' => Same H1 H' ∧ ∃ done rest, H' Dl = some (.lst (done.map vOf)) ∧ done.all flatD = true ∧ done.length ≤ i ∧ compGo (fun d => fc (setE ρ i0 d)) (fun d => fe (setE ρ i0 d)) (ds.drop i) = some rest ∧ done ++ rest = ys) ?_ ?_ ?_ ?_
    · exact ⟨same_upd nD, [], ys, upd_same, rfl, Nat.le_refl _, hys, rfl⟩
    · rintro i H' _ ⟨s', _⟩
      exact sqT_mono s' ha
    · rintro i x' H' hxi ⟨s', done, rest, hD, hf, hle, hgo, hcat⟩
      have hi : i < ds.length := by
        rw [← rx.length]
        exact (List.getElem?_eq_some_iff.mp hxi).1
      obtain ⟨dd, hdd, rd⟩ := rx.getV hxi
      have hdrop : ds.drop i = dd :: ds.drop (i + 1) := by
        rw [List.drop_eq_getElem_cons hi]
        rw [List.getElem?_eq_getElem hi] at hdd
        cases hdd
        rfl
      rw [hdrop] at hgo
      refine comp_turn nD s' (E.mono s1) (rd.mono s') hD hf (by omega) hgo (fun σ' H'' b Q' E' hb hq => qt σ' H'' _ b Q' E' hb hq) (fun σ' H'' y Q' E' hy hq => qe σ' H'' _ y Q' E' hy hq) fun H'' done' rest' s'' hD' hf' hl' hgo' hcat' => ?_
      exact ⟨s'', done', rest', hD', hf', by omega, hgo', by rw [hcat', hcat]⟩
    · rintro H' ⟨s', done, rest, hD, hf, hle, hgo, hcat⟩
      rw [List.drop_eq_nil_of_le (by rw [rx.length]; exact Nat.le_refl _)] at hgo
      cases hgo
      rw [List.append_nil] at hcat
      subst hcat
      exact q _ H' (s1.trans s') (.lst hD (rpA_of hf))
  · cases h9
theorem ps_setT {M : Sg} {k : Nat} {N : List Str} {sc : Scope} {X : Cx} (ok : Sok M k N sc X) (hkind : sc.kind = .function) {j i : Nat} {src elt : C} {x y : Str} {px py pos spos : Pos} {el it : Expr} {scope : Scope}
    (hy : N[j]? = some y) (hyl : sc.names.lookup y = some .local) (hl : (py.line == pos.line) = true) (ha : (scope.names.any fun (n, k) => n == y && (k == .local || k == .cell)) = false)
    (hc : chk N (.comp false i src .nil elt) sc (.e (.ListComp el [⟨.Name x px, it, [], 0⟩] scope pos)) = true) :
    PS X (.Assign [.Name y py] (.ListComp el [⟨.Name x px, it, [], 0⟩] scope pos) spos) (tSetD X.K j (ev M (.comp false i src .nil elt))) := by
  unfold chk at hc
  split at hc
  · rename_i el2 t2 tp2 it2 ifs2 scope2 pos2 heq
    cases heq
    simp only [Bool.and_eq_true, decide_eq_true_eq] at hc
    obtain ⟨⟨⟨⟨⟨⟨h1, h2⟩, h3⟩, h4⟩, h5⟩, h6⟩, h7⟩ := hc
    obtain rfl := ok.nn
    obtain rfl := ok.esc
    obtain ⟨ts, ps, qs⟩ := (snd M _ X.N src).e _ X _ ok.toCok h5
    have hfs : ∀ z, foldedSetIterable it X.env z = pure z := fun z => by
      cases it <;> first | rfl | exact nomatch h3
    have p := ps_setLc (X := X) (i := j) (spos := spos) (pos := pos) (py := py) (tg := .Name x px) (own := [(x, i)]) (g := gName i) (tt := tDb X.K fun _ => some true) (te := tD X.K (ev M elt)) ok.calm ok.nd hy hyl (sw_true hkind hyl hl ha) (pi_tup ps) (blkOk_by h2)
      (fun s H Ca cl fp => pg_name (i := i) ok.nd h1 (.inl h4) (.inr h4)) (fun s H Ca cl fp => DTs.pt (X := X.blk s H scope (compEnvC scope cl Ca X.env) fp) dts_nil)
      (fun s H Ca cl fp => DE.pe (X := X.blk s H scope (compEnvC scope cl Ca X.env) fp) ((snd M _ X.N elt).e _ _ _ (ok.toCok.blk s H Ca cl fp) h6)) hfs
    refine ⟨fun pins s σ H D I ⟨ρ, d, E, hf, q⟩ => p.run pins s σ H D I ?_⟩
    refine lc_readT (X := X) (fs := ev M src) (fe := ev M elt) (fc := fun _ => some true) qs (fun σ H ρ b Q E hb hq => ⟨ρ, b, E, hb, hq⟩) (fun σ H ρ d Q E hd hq => ⟨ρ, d, E, hd, hq⟩) σ H ρ d _ E ?_ q
    rw [← hf]
    rfl
  · cases hc
section
variable {P : Program} {w : World} {K : PySem.W.Frag} {mg : Str → Option Value} {base : Heap}
def spBack : Sp := fun vs H Q _ => ∃ A t, vs = [A.v] ∧ TR H A t ∧ t.isNil = false ∧ A.as.Nodup ∧ ∀ A' H', TR H' A' (setBack t) → A'.as = A.as → Fr A.as H H' → Q A'.v H'
abbrev nBk : List Str := ["_law_part_here", "_law_ranks_here", "_law_due", "_law_side"]
theorem sBk : FnScope nBk ["_law_part_here"] (defScope (topS 101)) := scopeB_ok (by decide +kernel)
theorem rk_M (t : RT) (h : t.isNil = false) : op2 .ix (encM t) (.int 3) = some (.int t.rk) := by
  cases t with
  | nil => exact nomatch h
  | node _ _ _ _ => simp [RT.rk]
theorem rk_or (t : RT) : (if t.isNil = true then some (PyData.int 0) else op2 .ix (encM t) (.int 3)) = some (.int t.rk) := by
  cases t with
  | nil => rfl
  | node _ _ _ _ => simp [RT.rk]
theorem fit2 : 2 ≤ sizeLine := by decide
/-- the right side is changed in place, then hung in -/
theorem hangR {H H1 : Hp} {bl br br' : AT} {p : Addr} {l r r' : RT} {k y : Int} (h : TR H (.node bl p br) (.node l k r y)) (n : (AT.node bl p br).as.Nodup) (t1 : TR H1 br' r') (e : br'.as = br.as) (f : Fr br.as H H1) :
    H1 p = some (.lst [bl.v, .int k, br.v, .int y]) ∧ TR (upd H1 p (.lst [bl.v, .int k, br'.v, .int y])) (.node bl p br') (.node l k r' y) ∧ (AT.node bl p br').as = (AT.node bl p br).as ∧ Fr (AT.node bl p br).as H (upd H1 p (.lst [bl.v, .int k, br'.v, .int y])) := by
  obtain ⟨h1, h2, h3⟩ := h
  obtain ⟨n1, n2, n3, n4, n5⟩ := nd_node n
  refine ⟨f _ _ h1 n4, ⟨upd_same, (h2.keep f fun b m m2 => n5 b m m2).put n3, t1.put (by rw [e]; exact n4)⟩, by rw [AT.as, AT.as, e], ?_⟩
  exact (f.mono fun b m => mem_as.mpr (.inr (.inr m))).trans (Fr.put (List.mem_singleton.mpr rfl)) fun b m => .inl (by rw [List.mem_singleton.mp m]; exact mem_as.mpr (.inr (.inl rfl)))
abbrev XBk (P : Program) (w : World) (K : PySem.W.Frag) (mg : Str → Option Value) (base : Heap) (cdv : Value) (A : Around) (outer : List Env) (s : Shared) (H : Hp) (E : XK) : Cx := BX P w K mg base nBk "_law_back" 101 (He.ga K "_law_back") cdv A outer s H E
section
variable {cdv : Value} {A : Around} {outer : List Env} {s : Shared} {H0 : Hp} {E : XK} {n : Nat}
theorem back5 (T : Tab K mg) (hr : Room (n + 1) (A.deeper (envOfC "_law_back" (defScope (topS 101)) s.heap.objs.size (He.ga K "_law_back") cdv))) : ∃ t, PSs (XBk P w K mg base cdv A outer s H0 E) ((defBody (topS 101)).drop 5) t ∧
    ∀ (D : Ends) (u : RT) (B : AT) (x1 x2 x3 : Option V) (H : Hp), TR H B u → u.isNil = false → B.as.Nodup → (∀ B' H', TR H' B' (onR split (split u)) → B'.as = B.as → Fr B.as H H' → D.rt B'.v H') → t D [some B.v, x1, x2, x3] H := by
  obtain ⟨pd, p1, p2, p3, GP⟩ := (c_split_ (P := P) (w := w) (base := base) T n).ex
  have ok := hand_sok0 (P := P) (w := w) (base := base) T sBk (outer := outer) (H := H0) (E := E) hr
  refine ⟨_, (pss_cons (ps_set (i := 0) sBk.nd rfl (Or.inl rfl) (pe_call (x := "_law_split") GP hr rfl p3 p2 p1 .nil pass0 (pa_cons (pv 0) pa_nil)))
    (pss_cons (ps_if (sT ok (.notN (.b2 .ix (.var 0) (.cst (.int 2)))) rfl (by decide +kernel))
        (pss_one (ps_asg (pe_call (x := "_law_split") GP hr rfl p3 p2 p1 .nil pass0 (pa_cons (pe_ix ix_list (pv 0) pe_int (fun _ _ => rfl)) pa_nil)) (pg_sub (pv 0) pe_int set_list))) pss_nil)
    (pss_one (ps_ret (pv 0))))), fun D u B x1 x2 x3 H ht nn hn q => ?_⟩
  refine ⟨_, rfl, B, u, rfl, ht, hn, fun B1 H1 t1 a1 f1 => ?_⟩
  cases u with
  | nil => exact nomatch nn
  | node l k r y =>
    obtain ⟨a, j, b, x, e⟩ := split_node l k r y
    rw [e] at t1 q
    have n1 : B1.as.Nodup := by rw [a1]; exact hn
    have E1 : EnvR K H1 [some B1.v, x1, x2, x3] [some (encM (.node a j b x)), none, none, none] := envR_cons t1.rp (envR_skip (envR_skip (envR_skip envR_nil)))
    refine ⟨_, !b.isNil, E1, by simp, fun H2 s2 => ?_⟩
    have t2 := t1.same s2
    cases B1 with
    | nil => exact t1.elim
    | node bl p br =>
      cases b with
      | nil =>
        refine (if_neg Bool.false_ne_true).mpr ?_
        exact ⟨_, rfl, q (.node bl p br) H2 t2 a1 (f1.trans (Fr.same (S := []) s2) fun b m => nomatch m)⟩
      | node b1 b2 b3 b4 =>
        refine (if_pos rfl).mpr ?_
        refine ⟨_, rfl, p, _, 2, _, rfl, rfl, SqL.of t2.1, at_2, br, _, rfl, t2.2.2, (nd_node n1).2.1, fun B3 H3 t3 a3 f3 => ?_⟩
        obtain ⟨h1, h2, h3, h4⟩ := hangR t2 n1 t3 a3 f3
        refine ⟨_, rfl, p, _, 2, 2, rfl, rfl, h1, rfl, _, rfl, ?_⟩
        refine q (.node bl p B3) _ h2 (by rw [h3, a1]) ?_
        exact f1.trans ((Fr.same s2).trans h4 fun b m => .inl m) fun b m => .inl (by rw [← a1]; exact m)
theorem back3 (T : Tab K mg) (hr : Room (n + 1) (A.deeper (envOfC "_law_back" (defScope (topS 101)) s.heap.objs.size (He.ga K "_law_back") cdv))) : ∃ t, PSs (XBk P w K mg base cdv A outer s H0 E) ((defBody (topS 101)).drop 3) t ∧
    ∀ (D : Ends) (u : RT) (B : AT) (x1 x2 x3 : Option V) (H : Hp), TR H B u → u.isNil = false → B.as.Nodup → (∀ B' H', TR H' B' (onR split (split (onR (onR skew) (onR skew (skew u))))) → B'.as = B.as → Fr B.as H H' → D.rt B'.v H') → t D [some B.v, x1, x2, x3] H := by
  obtain ⟨kd, k1, k2, k3, GK⟩ := (c_skew_ (P := P) (w := w) (base := base) T n).ex
  obtain ⟨t5, ps5, q5⟩ := back5 (P := P) (w := w) (base := base) (outer := outer) (H0 := H0) (E := E) T hr
  have ok := hand_sok0 (P := P) (w := w) (base := base) T sBk (outer := outer) (H := H0) (E := E) hr
  refine ⟨_, (pss_cons (ps_set (i := 0) sBk.nd rfl (Or.inl rfl) (pe_call (x := "_law_skew") GK hr rfl k3 k2 k1 .nil pass0 (pa_cons (pv 0) pa_nil)))
    (pss_cons (ps_if (sT ok (.notN (.b2 .ix (.var 0) (.cst (.int 2)))) rfl (by decide +kernel))
        (pss_cons (ps_asg (pe_call (x := "_law_skew") GK hr rfl k3 k2 k1 .nil pass0 (pa_cons (pe_ix ix_list (pv 0) pe_int (fun _ _ => rfl)) pa_nil)) (pg_sub (pv 0) pe_int set_list))
          (pss_one (ps_if (sT ok (.notN (.b2 .ix (.b2 .ix (.var 0) (.cst (.int 2))) (.cst (.int 2)))) rfl (by decide +kernel))
            (pss_one (ps_asg (pe_call (x := "_law_skew") GK hr rfl k3 k2 k1 .nil pass0 (pa_cons (pe_ix ix_list (pe_ix ix_list (pv 0) pe_int (fun _ _ => rfl)) pe_int (fun _ _ => rfl)) pa_nil)) (pg_sub (pe_ix ix_list (pv 0) pe_int (fun _ _ => rfl)) pe_int set_list))) pss_nil))) pss_nil)
    ps5)), fun D u B x1 x2 x3 H ht nn hn q => ?_⟩
  refine ⟨_, rfl, B, u, rfl, ht, hn, fun B1 H1 t1 a1 f1 => ?_⟩
  cases u with
  | nil => exact nomatch nn
  | node l k r y =>
    obtain ⟨a, j, b, x, e⟩ := skew_node l k r y
    rw [e] at t1 q
    have n1 : B1.as.Nodup := by rw [a1]; exact hn
    have E1 : EnvR K H1 [some B1.v, x1, x2, x3] [some (encM (.node a j b x)), none, none, none] := envR_cons t1.rp (envR_skip (envR_skip (envR_skip envR_nil)))
    -- the end
    have fin : ∀ (C : AT) (v : RT) (H2 : Hp), TR H2 C v → v.isNil = false → C.as = B1.as → Fr B1.as H1 H2 → v = onR (onR skew) (onR skew (.node a j b x)) → t5 D [some C.v, x1, x2, x3] H2 := by
      intro C v H2 tc nv ac fc ev
      refine q5 D v C x1 x2 x3 H2 tc nv (by rw [ac]; exact n1) fun B' H' t' a' f' => ?_
      refine q B' H' (by rw [← ev]; exact t') (by rw [a', ac, a1]) ?_
      exact (f1.trans fc fun b m => .inl (by rw [← a1]; exact m)).trans f' fun b m => .inl (by rw [ac, a1] at m; exact m)
    refine ⟨_, !b.isNil, E1, by simp, fun H2 s2 => ?_⟩
    have t2 := t1.same s2
    cases B1 with
    | nil => exact t1.elim
    | node bl p br =>
      cases b with
      | nil =>
        refine (if_neg Bool.false_ne_true).mpr ?_
        exact fin (.node bl p br) _ H2 t2 rfl rfl (Fr.same s2) rfl
      | node b1 b2 b3 b4 =>
        refine (if_pos rfl).mpr ?_
        obtain ⟨c1, c2, c3, c4, e2⟩ := skew_node b1 b2 b3 b4
        refine ⟨_, rfl, p, _, 2, _, rfl, rfl, SqL.of t2.1, at_2, br, _, rfl, t2.2.2, (nd_node n1).2.1, fun B3 H3 t3 a3 f3 => ?_⟩
        obtain ⟨h1, h2, h3, h4⟩ := hangR t2 n1 t3 a3 f3
        refine ⟨_, rfl, p, _, 2, 2, rfl, rfl, h1, rfl, ?_⟩
        rw [e2] at h2
        have f4 : Fr (AT.node bl p br).as H1 (upd H3 p (.lst [bl.v, .int j, B3.v, .int x])) := (Fr.same s2).trans h4 fun b m => .inl m
        generalize hG : upd H3 p (.lst [bl.v, .int j, B3.v, .int x]) = G at *
        have hG' : upd H3 p (.lst ([bl.v, .int j, br.v, .int x].set 2 B3.v)) = G := hG
        rw [hG']
        have E2 : EnvR K G [some (V.ref p), x1, x2, x3] [some (encM (.node a j (.node c1 c2 c3 c4) x)), none, none, none] := envR_cons h2.rp (envR_skip (envR_skip (envR_skip envR_nil)))
        refine ⟨_, !c3.isNil, E2, by simp, fun H5 s5 => ?_⟩
        have t5' := h2.same s5
        cases B3 with
        | nil => exact h2.2.2.elim
        | node ql p2 qr =>
          have n3 : (AT.node bl p (.node ql p2 qr)).as.Nodup := by rw [h3]; exact n1
          cases c3 with
          | nil =>
            refine (if_neg Bool.false_ne_true).mpr ?_
            refine fin (.node bl p (.node ql p2 qr)) _ H5 t5' rfl h3 (f4.trans (Fr.same (S := []) s5) fun b m => nomatch m) ?_
            show _ = onR (onR skew) (.node a j (skew (.node b1 b2 b3 b4)) x)
            rw [e2]
            rfl
          | node d1 d2 d3 d4 =>
            refine (if_pos rfl).mpr ?_
            refine ⟨_, rfl, p, _, 2, _, rfl, rfl, SqL.of t5'.1, at_2, p2, _, 2, _, rfl, rfl, SqL.of t5'.2.2.1, at_2, qr, _, rfl, t5'.2.2.2.2, (nd_node (nd_node n3).2.1).2.1, fun B6 H6 t6 a6 f6 => ?_⟩
            obtain ⟨g1, g2, g3, g4⟩ := hangR t5'.2.2 (nd_node n3).2.1 t6 a6 f6
            have np : p ∉ (AT.node ql p2 qr).as := (nd_node n3).2.2.2.1
            have hp6 : H6 p = some (.lst [bl.v, .int j, (AT.node ql p2 qr).v, .int x]) := f6 _ _ t5'.1 fun m => np (mem_as.mpr (.inr (.inr m)))
            refine ⟨_, rfl, p, _, 2, _, rfl, rfl, SqL.of hp6, at_2, p2, _, 2, 2, rfl, rfl, g1, rfl, ?_⟩
            refine fin (.node bl p (.node ql p2 B6)) (.node a j (.node c1 c2 (skew (.node d1 d2 d3 d4)) c4) x) _ ⟨g4 _ _ t5'.1 np, t5'.2.1.keep g4 (fun b m m2 => (nd_node n3).2.2.2.2 b m m2), g2⟩ rfl ?_ ?_ ?_
            · rw [AT.as, g3]; exact h3
            · refine (f4.trans (Fr.same (S := []) s5) fun b m => nomatch m).trans g4 fun b m => .inl ?_
              rw [← h3]
              exact mem_as.mpr (.inr (.inr m))
            · show _ = onR (onR skew) (.node a j (skew (.node b1 b2 b3 b4)) x)
              rw [e2]
              rfl
end
theorem min_of {a b m : Int} (h1 : m ∈ [a, b]) (h2 : ∀ y ∈ [a, b], m ≤ y) : m = min a b := by
  have ha := h2 a List.mem_cons_self
  have hb := h2 b (List.mem_cons_of_mem _ List.mem_cons_self)
  simp only [List.mem_cons, List.not_mem_nil, or_false] at h1
  omega
theorem ok_back (T : Tab K mg) {fd : FuncData} (F : FDef K "_law_back" 101 fd) (n : Nat) : FnOk P w K mg base CX0 (n + 2) (He.ga K "_law_back") fd ["_law_part_here"] spBack := by
  refine F.ok sBk (fun vs H Q E h => by obtain ⟨A, t, rfl, _⟩ := h; rfl) (fun cdv A outer s H vs Q E hr h => ?_)
  obtain ⟨A, t, rfl, ht, nn, hn, q⟩ := h
  have ok := hand_sok0 (P := P) (w := w) (base := base) T sBk (outer := outer) (H := H) (E := E) hr
  obtain ⟨t3, ps3, q3⟩ := back3 (P := P) (w := w) (base := base) (outer := outer) (H0 := H) (E := E) T hr
  refine ⟨_, (pss_cons (ps_setT (j := 1) (i := 3) (src := .tup (.cons (.b2 .ix (.var 0) (.cst (.int 0))) (.cons (.b2 .ix (.var 0) (.cst (.int 2))) .nil))) (elt := .ite (.isN (.var 3)) (.cst (.int 0)) (.b2 .ix (.var 3) (.cst (.int 3)))) ok rfl rfl rfl rfl (by decide +kernel) (by decide +kernel))
    (pss_cons (ps_set (i := 2) sBk.nd rfl (Or.inl rfl) (pe_op op_add (pe_callB (x := "min") (cr_min rfl) rfl (T.blt "min" (by decide +kernel)) boot_minB (pa_cons (pv 1) pa_nil)) pe_int))
    (pss_cons (ps_if (sT ok (.b2 .gt (.b2 .ix (.var 0) (.cst (.int 3))) (.var 2)) rfl (by decide +kernel))
        (pss_cons (ps_asg (pv 2) (pg_sub (pv 0) pe_int set_list))
          (pss_one (ps_if (sT ok (.and (.notN (.b2 .ix (.var 0) (.cst (.int 2)))) (.b2 .gt (.b2 .ix (.b2 .ix (.var 0) (.cst (.int 2))) (.cst (.int 3))) (.var 2))) rfl (by decide +kernel))
            (pss_one (ps_asg (pv 2) (pg_sub (pe_ix ix_list (pv 0) pe_int (fun _ _ => rfl)) pe_int set_list))) pss_nil))) pss_nil)
    ps3))).nox, ?_⟩
  cases t with
  | nil => exact nomatch nn
  | node l k r y =>
    cases A with
    | nil => exact ht.elim
    | node al p ar =>
      have E1 : EnvR K H [some (V.ref p), none, none, none] [some (encM (.node l k r y)), none, none, none] := envR_cons (TR.rp ht) (envR_skip (envR_skip (envR_skip envR_nil)))
      refine ⟨_, .list [.int l.rk, .int r.rk], E1, ?_, fun v1 H1 s1 r1 => ?_⟩
      · cases l <;> cases r <;> simp [e_comp, compGo, RT.rk, flatD]
      obtain ⟨ra, xs, rfl, hx, rx⟩ := r1.lstI
      have ex : xs = [l.rk, r.rk].map V.int := RpA.ints (bs := [l.rk, r.rk]) rx
      refine ⟨_, rfl, ra, [l.rk, r.rk], rfl, SqL.of (by rw [hx, ex]), Nat.zero_lt_succ _, fun m hm hle => ⟨m, 1, rfl, rfl, ?_⟩⟩
      have em := min_of hm hle
      subst em
      have ht1 := ht.same s1
      have E2 : EnvR K H1 [some (V.ref p), some (.ref ra), some (.int (min l.rk r.rk + 1)), none] [some (encM (.node l k r y)), none, some (.int (min l.rk r.rk + 1)), none] := envR_cons (TR.rp ht1) (envR_skip (envR_cons (.int _) (envR_skip envR_nil)))
      have lo := lower_eq l k r y
      refine ⟨_, decide (min l.rk r.rk + 1 < y), E2, by simp, fun H2 s2 => ?_⟩
      have fin : ∀ (C : AT) (u : RT) (x1 x2 x3 : Option V) (H3 : Hp), TR H3 C u → u.isNil = false → C.as = (AT.node al p ar).as → Fr (AT.node al p ar).as H H3 → u = lower (.node l k r y) → t3 { nx := fun _ H' => Q .non H', rt := Q } [some C.v, x1, x2, x3] H3 := by
        intro C u x1 x2 x3 H3 tc nu ac fc eu
        refine q3 _ u C x1 x2 x3 H3 tc nu (by rw [ac]; exact hn) fun B' H' t' a' f' => ?_
        refine q B' H' (by rw [eu] at t'; exact t') (by rw [a', ac]) ?_
        exact fc.trans f' fun b m => .inl (by rw [ac] at m; exact m)
      have s12 := s1.trans s2
      obtain ⟨c1, c2, c3⟩ := TR.same s12 (A := .node al p ar) (t := .node l k r y) ht
      obtain ⟨n1, n2, n3, n4, n5⟩ := nd_node hn
      by_cases c : min l.rk r.rk + 1 < y
      · refine (if_pos (decide_eq_true c)).mpr ?_
        rw [if_pos c] at lo
        refine ⟨_, rfl, _, rfl, p, _, 3, 3, rfl, rfl, c1, rfl, ?_⟩
        have g1 : TR (upd H2 p (.lst ([al.v, .int k, ar.v, .int y].set 3 (.int (min l.rk r.rk + 1))))) (.node al p ar) (.node l k r (min l.rk r.rk + 1)) := ⟨upd_same, c2.put n3, c3.put n4⟩
        have g2 : Fr (AT.node al p ar).as H (upd H2 p (.lst ([al.v, .int k, ar.v, .int y].set 3 (.int (min l.rk r.rk + 1))))) := (Fr.same s12).trans (Fr.put (mem_as.mpr (.inr (.inl rfl)))) fun b m => .inl m
        generalize upd H2 p (.lst ([al.v, .int k, ar.v, .int y].set 3 (.int (min l.rk r.rk + 1)))) = G at *
        have E3 : EnvR K G [some (V.ref p), some (.ref ra), some (.int (min l.rk r.rk + 1)), none] [some (encM (.node l k r (min l.rk r.rk + 1))), none, some (.int (min l.rk r.rk + 1)), none] := envR_cons (TR.rp g1) (envR_skip (envR_cons (.int _) (envR_skip envR_nil)))
        cases r with
        | nil =>
          refine ⟨_, false, E3, by simp, fun H4 s4 => ?_⟩
          refine (if_neg Bool.false_ne_true).mpr ?_
          refine fin (.node al p ar) (.node l k .nil (min l.rk RT.nil.rk + 1)) _ _ _ H4 (TR.same s4 g1) rfl rfl (g2.trans (Fr.same (S := []) s4) fun b m => nomatch m) ?_
          rw [lo]
          split <;> rfl
        | node w1 w2 w3 w4 =>
          refine ⟨_, decide (min l.rk (RT.node w1 w2 w3 w4).rk + 1 < w4), E3, by simp, fun H4 s4 => ?_⟩
          have g4 := TR.same s4 g1
          by_cases cr : min l.rk (RT.node w1 w2 w3 w4).rk + 1 < w4
          · refine (if_pos (decide_eq_true cr)).mpr ?_
            cases ar with
            | nil => exact c3.elim
            | node rl p2 rr =>
              obtain ⟨m1, m2, m3, m4, m5⟩ := nd_node n2
              have hp : p2 ≠ p := fun z => n4 (mem_as.mpr (.inr (.inl z.symm)))
              refine ⟨_, rfl, _, rfl, p, _, 2, _, rfl, rfl, SqL.of g4.1, at_2, p2, _, 3, 3, rfl, rfl, g4.2.2.1, rfl, ?_⟩
              refine fin (.node al p (.node rl p2 rr)) (.node l k (.node w1 w2 w3 (min l.rk (RT.node w1 w2 w3 w4).rk + 1)) (min l.rk (RT.node w1 w2 w3 w4).rk + 1)) _ _ _ _ ⟨(upd_ne fun z => hp z.symm).trans g4.1, g4.2.1.put (fun m => n5 p2 m (mem_as.mpr (.inr (.inl rfl)))), upd_same, g4.2.2.2.1.put m3, g4.2.2.2.2.put m4⟩ rfl rfl ?_ ?_
              · exact (g2.trans (Fr.same (S := []) s4) fun b m => nomatch m).trans (Fr.put (mem_as.mpr (.inr (.inr (mem_as.mpr (.inr (.inl rfl))))))) fun b m => .inl m
              · rw [lo, if_pos (show min l.rk (RT.node w1 w2 w3 w4).rk + 1 < (RT.node w1 w2 w3 w4).rk from cr)]
                rfl
          · refine (if_neg (by rw [decide_eq_false cr]; exact Bool.false_ne_true)).mpr ?_
            refine fin (.node al p ar) _ _ _ _ H4 g4 rfl rfl (g2.trans (Fr.same (S := []) s4) fun b m => nomatch m) ?_
            rw [lo, if_neg (show ¬ min l.rk (RT.node w1 w2 w3 w4).rk + 1 < (RT.node w1 w2 w3 w4).rk from cr)]
            rfl
      · refine (if_neg (by rw [decide_eq_false c]; exact Bool.false_ne_true)).mpr ?_
        rw [if_neg c] at lo
        exact fin (.node al p ar) (.node l k r y) _ _ _ H2 ⟨c1, c2, c3⟩ rfl rfl (Fr.same s12) lo.symm
end
end TT
set_option Elab.async false
set_option linter.all false
set_option maxRecDepth 100000
set_option maxHeartbeats 4000000
/-! Levels 4: taken out; the law's road through the levels. -/
namespace TT
open PySem PySem.Spec PyProof.Rows L2
section
variable {P : Program} {w : World} {K : PySem.W.Frag} {mg : Str → Option Value} {base : Heap}
theorem c_back_ (T : Tab K mg) (n : Nat) : Cl1 P w K mg base (n + 2) "_law_back" ["_law_part_here"] spBack := by
  obtain ⟨fd, F⟩ := T.def_ 83 (x := "_law_back") (i := 101) rfl
  exact ⟨fd, bind1 F fun _ _ _ _ _ _ _ => rfl, F.kp, T.glo 83 rfl, ok_back T F n⟩
/-- the law's keys, with ten calls -/
def spKeys (K : PySem.W.Frag) : Sp := spD K (callD 10 ._law_keys)
theorem c_keys_ (T : Tab K mg) (h : FAt P w K mg base 10 ._law_keys) {n : Nat} (hn : 10 ≤ n) : Cl1 P w K mg base n "_law_keys" (fps ._law_keys) (spKeys K) := by
  obtain ⟨fd, h1, h2, h3⟩ := h.ex
  exact ⟨fd, h1, h2, T.mgf ._law_keys, h3.mono hn⟩
def spOut (n : Nat) : Sp := fun vs H Q _ => ∃ A t k, vs = [A.v, .int k] ∧ TR H A t ∧ A.as.Nodup ∧ Bst (bare t) ∧ k ∈ (bare t).keys ∧ t.size ≤ 8 ∧ t.ht + 11 ≤ n ∧ ∀ A' H', TR H' A' (takeOut t k) → A'.as.Nodup → (∀ b ∈ A'.as, b ∈ A.as) → Fr A.as H H' → Q A'.v H'
abbrev nOu : List Str := ["_law_part_here", "_law_key", "_law_side", "_law_keys_here"]
theorem sOu : FnScope nOu ["_law_part_here", "_law_key"] (defScope (topS 102)) := scopeB_ok (by decide +kernel)
theorem ht_sizeR : ∀ t : RT, t.ht ≤ t.size
  | .nil => Nat.le_refl _
  | .node l _ r _ => by
    have := ht_sizeR l
    have := ht_sizeR r
    simp only [RT.ht, RT.size]
    omega
theorem c_out_ (T : Tab K mg) (hk : FAt P w K mg base 10 ._law_keys) : ∀ n, Cl1 P w K mg base n "_law_level_out" ["_law_part_here", "_law_key"] (spOut n)
  | 0 => by
    obtain ⟨fd, F⟩ := T.def_ 84 (x := "_law_level_out") (i := 102) rfl
    refine ⟨fd, bind2 F fun _ _ _ _ _ _ _ _ => rfl, F.kp, T.glo 84 rfl, ⟨fun vs H Q E h => ?_, fun A outer s H args us vs Q E _ _ _ _ h => ?_⟩⟩
    · obtain ⟨v, t, k, _, _, _, _, _, _, h, _⟩ := h; omega
    · obtain ⟨v, t, k, _, _, _, _, _, _, h, _⟩ := h; omega
  | n + 1 => by
    obtain ⟨fd, F⟩ := T.def_ 84 (x := "_law_level_out") (i := 102) rfl
    refine ⟨fd, bind2 F fun _ _ _ _ _ _ _ _ => rfl, F.kp, T.glo 84 rfl, ?_⟩
    by_cases hn : n < 11
    · have no : ∀ vs H Q E, ¬ spOut (n + 1) vs H Q E := fun vs H Q E h => by
        obtain ⟨A, t, k, _, _, _, _, hm, _, h, _⟩ := h
        cases t with
        | nil => exact absurd hm not_mem_nil
        | node _ _ _ _ => simp only [RT.ht] at h; omega
      exact ⟨fun vs H Q E h => absurd h (no vs H Q E), fun A outer s H args us vs Q E _ _ _ _ h => absurd h (no vs H Q E)⟩
    refine F.ok sOu (fun vs H Q E h => by obtain ⟨A, t, k, rfl, _⟩ := h; rfl) (fun cdv A outer s H vs Q E hr h => ?_)
    obtain ⟨gd, g1, g2, g3, G⟩ := (c_out_ T hk n).ex
    obtain ⟨bd, b1, b2, b3, GB⟩ := ((c_back_ (P := P) (w := w) (base := base) T 0).mono (n := n) (by omega)).ex
    obtain ⟨kd, k1, k2, k3, GK⟩ := (c_keys_ (P := P) (w := w) (base := base) T hk (n := n) (by omega)).ex
    obtain ⟨ed, e1, e2, e3, GE⟩ := (c_bare_ (P := P) (w := w) (base := base) T n).ex
    obtain ⟨A, t, k, rfl, ht, hnd, hb, hm, hz, hh, q⟩ := h
    have ok := hand_sok0 (P := P) (w := w) (base := base) T sOu (outer := outer) (H := H) (E := E) hr
    refine ⟨_, (pss_cons (ps_if (sT ok (.b2 .eq (.b2 .ix (.var 0) (.cst (.int 1))) (.var 1)) rfl (by decide +kernel))
        (pss_cons (ps_if (sT ok (.and (.isN (.b2 .ix (.var 0) (.cst (.int 0)))) (.isN (.b2 .ix (.var 0) (.cst (.int 2))))) rfl (by decide +kernel)) (pss_one (ps_ret pe_non)) pss_nil)
          (pss_cons (ps_set (i := 2) sOu.nd rfl (Or.inl rfl) (sE ok (.ite (.isN (.b2 .ix (.var 0) (.cst (.int 0)))) (.cst (.int 2)) (.cst (.int 0))) (by decide +kernel)))
            (pss_cons (ps_set (i := 3) sOu.nd rfl (Or.inl rfl) (pe_call (x := "_law_keys") GK hr rfl k3 k2 k1 .nil pass0 (pa_cons (pe_call (x := "_law_bare") GE hr rfl e3 e2 e1 .nil pass0 (pa_cons (pe_ix ix_list (pv 0) (pv 2) (fun _ _ => rfl)) pa_nil)) pa_nil)))
              (pss_cons (ps_set (i := 1) sOu.nd rfl (Or.inl rfl) (sE ok (.ite (.b2 .eq (.var 2) (.cst (.int 2))) (.b2 .ix (.var 3) (.cst (.int 0))) (.b2 .ix (.var 3) (.neg (.cst (.int 1))))) (by decide +kernel)))
                (pss_one (ps_asg (pv 1) (pg_sub (pv 0) pe_int set_list)))))))
        (pss_one (ps_set (i := 2) sOu.nd rfl (Or.inl rfl) (sE ok (.ite (.b2 .lt (.var 1) (.b2 .ix (.var 0) (.cst (.int 1)))) (.cst (.int 0)) (.cst (.int 2))) (by decide +kernel)))))
      (pss_cons (ps_asg (pe_call (x := "_law_level_out") G hr rfl g3 g2 g1 .nil pass0 (pa_cons (pe_ix ix_list (pv 0) (pv 2) (fun _ _ => rfl)) (pa_cons (pv 1) pa_nil))) (pg_sub (pv 0) (pv 2) set_list))
        (pss_one (ps_ret (pe_call (x := "_law_back") GB hr rfl b3 b2 b1 .nil pass0 (pa_cons (pv 0) pa_nil)))))).nox, ?_⟩
    cases t with
    | nil => exact absurd hm not_mem_nil
    | node l x r y =>
      cases A with
      | nil => exact ht.elim
      | node al p ar =>
        simp only [RT.ht] at hh
        simp only [RT.size] at hz
        obtain ⟨n1, n2, n3, n4, n5⟩ := nd_node hnd
        have hb' : Bst (.node (bare l) x (bare r)) := hb
        have hm' : k ∈ (TT.T.node (bare l) x (bare r)).keys := hm
        have zl := bare_size l
        have zr := bare_size r
        -- the end
        have fin : ∀ (B : AT) (u : RT) (H3 : Hp), TR H3 B u → u.isNil = false → B.as.Nodup → (∀ b ∈ B.as, b ∈ (AT.node al p ar).as) → Fr (AT.node al p ar).as H H3 → B.v = .ref p → setBack u = takeOut (.node l x r y) k →
            ∃ A2 t2, [V.ref p] ++ ([] : List V) = [A2.v] ∧ TR H3 A2 t2 ∧ t2.isNil = false ∧ A2.as.Nodup ∧ ∀ A3 H4, TR H4 A3 (setBack t2) → A3.as = A2.as → Fr A2.as H3 H4 → Q A3.v H4 := by
          intro B u H3 tb nu nb sb fb vb e
          refine ⟨B, u, by rw [vb]; rfl, tb, nu, nb, fun A3 H4 t3 a3 f3 => q A3 H4 (by rw [← e]; exact t3) (by rw [a3]; exact nb) (fun b m => sb b (by rw [a3] at m; exact m)) (fb.trans f3 fun b m => .inl (sb b m))⟩
        -- from the second statement on, on the left, on the right
        have goL : ∀ (x' k' : Int) (x3 : Option V) (H1 : Hp), TR H1 (.node al p ar) (.node l x' r y) → Fr (AT.node al p ar).as H H1 → k' ∈ (bare l).keys → setBack (.node (takeOut l k') x' r y) = takeOut (.node l x r y) k →
            ∃ v, [some (V.ref p), some (.int k'), some (.int 0), x3][0]? = some (some v) ∧ ∃ v2, [some (V.ref p), some (.int k'), some (.int 0), x3][2]? = some (some v2) ∧ ∃ p1 xs i vv, v = .ref p1 ∧ v2 = .int i ∧ SqL K H1 p1 xs ∧ atI xs i = some vv ∧ ∃ v3, [some (V.ref p), some (.int k'), some (.int 0), x3][1]? = some (some v3) ∧
              spOut n ([vv, v3] ++ []) H1 (fun u H2 => ∃ w1, [some (V.ref p), some (.int k'), some (.int 0), x3][0]? = some (some w1) ∧ ∃ w2, [some (V.ref p), some (.int k'), some (.int 0), x3][2]? = some (some w2) ∧ rSetL w1 w2 u H2 fun H3 => ∃ w3, [some (V.ref p), some (.int k'), some (.int 0), x3][0]? = some (some w3) ∧ spBack ([w3] ++ []) H3 Q E0) E0 := by
          intro x' k' x3 H1 t1 f1 hk' e
          refine ⟨_, rfl, _, rfl, p, _, 0, _, rfl, rfl, SqL.of t1.1, at_0, _, rfl, ?_⟩
          refine ⟨al, l, k', rfl, t1.2.1, n1, hb'.1, hk', by omega, by omega, fun A1 H2 t2 m1 m2 f2 => ?_⟩
          refine ⟨_, rfl, _, rfl, p, _, 0, 0, rfl, rfl, f2 _ _ t1.1 n3, rfl, _, rfl, ?_⟩
          have pn : p ∉ A1.as := fun m => n3 (m2 p m)
          refine fin (.node A1 p ar) (.node (takeOut l k') x' r y) _ ⟨upd_same, t2.put pn, (t1.2.2.keep f2 fun b m m3 => n5 b m3 m).put n4⟩ rfl (nd_of m1 n2 pn n4 fun b m m3 => n5 b (m2 b m) m3) ?_ ?_ rfl e
          · intro b m
            rcases mem_as.mp m with m | m | m
            · exact mem_as.mpr (.inl (m2 b m))
            · exact mem_as.mpr (.inr (.inl m))
            · exact mem_as.mpr (.inr (.inr m))
          · exact (f1.trans f2 fun b m => .inl (mem_as.mpr (.inl m))).trans (Fr.put (List.mem_singleton.mpr rfl)) fun b m => .inl (by rw [List.mem_singleton.mp m]; exact mem_as.mpr (.inr (.inl rfl)))
        have goR : ∀ (x' k' : Int) (x3 : Option V) (H1 : Hp), TR H1 (.node al p ar) (.node l x' r y) → Fr (AT.node al p ar).as H H1 → k' ∈ (bare r).keys → setBack (.node l x' (takeOut r k') y) = takeOut (.node l x r y) k →
            ∃ v, [some (V.ref p), some (.int k'), some (.int 2), x3][0]? = some (some v) ∧ ∃ v2, [some (V.ref p), some (.int k'), some (.int 2), x3][2]? = some (some v2) ∧ ∃ p1 xs i vv, v = .ref p1 ∧ v2 = .int i ∧ SqL K H1 p1 xs ∧ atI xs i = some vv ∧ ∃ v3, [some (V.ref p), some (.int k'), some (.int 2), x3][1]? = some (some v3) ∧
              spOut n ([vv, v3] ++ []) H1 (fun u H2 => ∃ w1, [some (V.ref p), some (.int k'), some (.int 2), x3][0]? = some (some w1) ∧ ∃ w2, [some (V.ref p), some (.int k'), some (.int 2), x3][2]? = some (some w2) ∧ rSetL w1 w2 u H2 fun H3 => ∃ w3, [some (V.ref p), some (.int k'), some (.int 2), x3][0]? = some (some w3) ∧ spBack ([w3] ++ []) H3 Q E0) E0 := by
          intro x' k' x3 H1 t1 f1 hk' e
          refine ⟨_, rfl, _, rfl, p, _, 2, _, rfl, rfl, SqL.of t1.1, at_2, _, rfl, ?_⟩
          refine ⟨ar, r, k', rfl, t1.2.2, n2, hb'.2.1, hk', by omega, by omega, fun A1 H2 t2 m1 m2 f2 => ?_⟩
          refine ⟨_, rfl, _, rfl, p, _, 2, 2, rfl, rfl, f2 _ _ t1.1 n4, rfl, _, rfl, ?_⟩
          have pn : p ∉ A1.as := fun m => n4 (m2 p m)
          refine fin (.node al p A1) (.node l x' (takeOut r k') y) _ ⟨upd_same, (t1.2.1.keep f2 fun b m m3 => n5 b m m3).put n3, t2.put pn⟩ rfl (nd_of n1 m1 n3 pn fun b m m3 => n5 b m (m2 b m3)) ?_ ?_ rfl e
          · intro b m
            rcases mem_as.mp m with m | m | m
            · exact mem_as.mpr (.inl m)
            · exact mem_as.mpr (.inr (.inl m))
            · exact mem_as.mpr (.inr (.inr (m2 b m)))
          · exact (f1.trans f2 fun b m => .inl (mem_as.mpr (.inr (.inr m)))).trans (Fr.put (List.mem_singleton.mpr rfl)) fun b m => .inl (by rw [List.mem_singleton.mp m]; exact mem_as.mpr (.inr (.inl rfl)))
        have E1 : EnvR K H [some (V.ref p), some (.int k), none, none] [some (encM (.node l x r y)), some (.int k), none, none] := envR_cons (TR.rp ht) (envR_cons (.int k) (envR_skip (envR_skip envR_nil)))
        refine ⟨_, decide (x = k), E1, by simp, fun H1 s1 => ?_⟩
        have ht1 := TR.same s1 ht
        by_cases cx : x = k
        · refine (if_pos (decide_eq_true cx)).mpr ?_
          subst cx
          refine ⟨_, l.isNil && r.isNil, E1.mono s1, by cases l <;> simp, fun H2 s2 => ?_⟩
          have s12 := s1.trans s2
          have ht2 := TR.same s2 ht1
          have to : takeOut (.node l x r y) x = if (l.isNil && r.isNil) = true then .nil else if l.isNil = true then setBack (.node l r.least (takeOut r r.least) y) else setBack (.node (takeOut l l.greatest) l.greatest r y) := by
            rw [takeOut, if_neg (Int.lt_irrefl x), if_neg (Int.lt_irrefl x)]
          cases hln : l.isNil with
          | true =>
            cases hrn : r.isNil with
            | true =>
              refine (if_pos rfl).mpr ?_
              rw [to, hln, hrn] at q
              exact q .nil H2 trivial List.nodup_nil (fun b m => nomatch m) (Fr.same s12)
            | false =>
              refine (if_neg Bool.false_ne_true).mpr ?_
              refine ⟨_, .int 2, E1.mono s12, by simp [hln], fun v2 H3 s3 r2 => ?_⟩
              cases r2.intI
              have ht3 := TR.same s3 ht2
              refine ⟨_, rfl, _, rfl, p, _, 2, _, rfl, rfl, SqL.of ht3.1, at_2, ?_⟩
              refine ⟨_, r, rfl, TR.rp ht3.2.2, by omega, fun v4 H4 s4 r4 => ?_⟩
              obtain ⟨zs, ek⟩ := keys_first (bare r) hb'.2.1 (by rw [isNilR]; exact hrn)
              rw [leastR] at ek
              refine ⟨[enc (bare r)], .list ((bare r).keys.map PyData.int), .cons r4 .nil, l_keys (bare r) 10 (by omega) (by omega), fun v5 H5 s5 r5 => ?_⟩
              have s15 := s12.trans (s3.trans (s4.trans s5))
              have E5 : EnvR K H5 [some (V.ref p), some (.int x), some (.int 2), some v5] [some (encM (.node l x r y)), some (.int x), some (.int 2), some (.list ((bare r).keys.map PyData.int))] := envR_cons (TR.rp (TR.same s15 ht)) (envR_cons (.int x) (envR_cons (.int 2) (envR_cons r5 envR_nil)))
              refine ⟨_, .int r.least, E5, by rw [ek]; simp, fun v6 H6 s6 r6 => ?_⟩
              cases r6.intI
              have s16 := s15.trans s6
              have ht6 := TR.same s16 (A := .node al p ar) (t := .node l x r y) ht
              refine ⟨_, rfl, _, rfl, p, _, 1, 1, rfl, rfl, ht6.1, rfl, ?_⟩
              refine goR r.least r.least (some v5) _ ⟨upd_same, ht6.2.1.put n3, ht6.2.2.put n4⟩ ((Fr.same s16).trans (Fr.put (mem_as.mpr (.inr (.inl rfl)))) fun b m => .inl m) ?_ ?_
              · rw [ek]; exact List.mem_cons_self
              · rw [to, hln, hrn]; rfl
          | false =>
            refine (if_neg (by simp)).mpr ?_
            refine ⟨_, .int 0, E1.mono s12, by simp [hln], fun v2 H3 s3 r2 => ?_⟩
            cases r2.intI
            have ht3 := TR.same s3 ht2
            refine ⟨_, rfl, _, rfl, p, _, 0, _, rfl, rfl, SqL.of ht3.1, at_0, ?_⟩
            refine ⟨_, l, rfl, TR.rp ht3.2.1, by omega, fun v4 H4 s4 r4 => ?_⟩
            obtain ⟨zs, ek⟩ := keys_last (bare l) hb'.1 (by rw [isNilR]; exact hln)
            rw [greatestR] at ek
            refine ⟨[enc (bare l)], .list ((bare l).keys.map PyData.int), .cons r4 .nil, l_keys (bare l) 10 (by omega) (by omega), fun v5 H5 s5 r5 => ?_⟩
            have s15 := s12.trans (s3.trans (s4.trans s5))
            have E5 : EnvR K H5 [some (V.ref p), some (.int x), some (.int 0), some v5] [some (encM (.node l x r y)), some (.int x), some (.int 0), some (.list ((bare l).keys.map PyData.int))] := envR_cons (TR.rp (TR.same s15 ht)) (envR_cons (.int x) (envR_cons (.int 0) (envR_cons r5 envR_nil)))
            have al1 : atI ((zs ++ [l.greatest]).map PyData.int) (-1) = some (.int l.greatest) := by rw [List.map_append]; exact atI_last _ _
            refine ⟨_, .int l.greatest, E5, by rw [ek]; generalize (zs ++ [l.greatest]).map PyData.int = zz at al1; simp [al1], fun v6 H6 s6 r6 => ?_⟩
            cases r6.intI
            have s16 := s15.trans s6
            have ht6 := TR.same s16 (A := .node al p ar) (t := .node l x r y) ht
            refine ⟨_, rfl, _, rfl, p, _, 1, 1, rfl, rfl, ht6.1, rfl, ?_⟩
            refine goL l.greatest l.greatest (some v5) _ ⟨upd_same, ht6.2.1.put n3, ht6.2.2.put n4⟩ ((Fr.same s16).trans (Fr.put (mem_as.mpr (.inr (.inl rfl)))) fun b m => .inl m) ?_ ?_
            · rw [ek]; exact List.mem_append_right _ List.mem_cons_self
            · rw [to, hln]; rfl
        · refine (if_neg (by rw [decide_eq_false cx]; exact Bool.false_ne_true)).mpr ?_
          by_cases c : k < x
          · refine ⟨_, .int 0, E1.mono s1, by simp [c], fun v2 H3 s3 r2 => ?_⟩
            cases r2.intI
            exact goL x k none H3 (TR.same s3 ht1) (Fr.same (s1.trans s3)) (in_left hb' hm' c) (by rw [takeOut, if_pos c])
          · refine ⟨_, .int 2, E1.mono s1, by simp [c], fun v2 H3 s3 r2 => ?_⟩
            cases r2.intI
            exact goR x k none H3 (TR.same s3 ht1) (Fr.same (s1.trans s3)) (in_right hb' hm' (by omega)) (by rw [takeOut, if_neg c, if_pos (by omega)])
end
end TT
set_option Elab.async false
set_option linter.all false
set_option maxRecDepth 100000
set_option maxHeartbeats 4000000
/-! Levels 5: the law's road through the levels; all pure defs. -/
namespace TT
open PySem PySem.Spec PyProof.Rows L2
theorem decT_inv : ∀ (n : Nat) (d : D) (t : T), decT n d = some t → d = enc t
  | 0, _, _, h => nomatch h
  | n + 1, d, t, h => by
    unfold decT at h
    split at h
    · cases h
    · cases h; rfl
    · rename_i m a k b e1
      cases e1
      obtain ⟨l, h1, h2⟩ := bind_some h
      obtain ⟨r, h3, h4⟩ := bind_some h2
      cases h4
      rw [decT_inv _ _ _ h1, decT_inv _ _ _ h3]
      rfl
    · cases h
theorem ranked_ht : ∀ t : T, (ranked t).ht = t.ht
  | .nil => rfl
  | .node l k r => by
    show 1 + max (ranked l).ht (ranked r).ht = 1 + max l.ht r.ht
    rw [ranked_ht l, ranked_ht r]
theorem lvD_inv {n : Nat} {b : Bool} {x y d : D} (h : lvD n b x y = some d) : ∃ t k, x = enc t ∧ y = .int k ∧ t.size ≤ 8 ∧ Bst t ∧ (b = false → k ∈ t.keys) ∧ d = if b then enc (bare (putIn (ranked t) k)) else enc (bare (takeOut (ranked t) k)) := by
  unfold lvD at h
  split at h
  · obtain ⟨t, h1, h2⟩ := bind_some h
    obtain ⟨k, h3, h4⟩ := bind_some h2
    split at h4
    · rename_i ho
      unfold lvOk at ho
      simp only [Bool.and_eq_true, decide_eq_true_eq, Bool.or_eq_true] at ho
      refine ⟨t, k, decT_inv _ _ _ h1, asI_some h3, ho.1, (bst_iff t).mpr ho.2.1, fun e => ?_, ?_⟩
      · rcases ho.2.2 with z | z
        · rw [e] at z; cases z
        · exact z
      · cases b <;> (cases h4; rfl)
    · cases h4
  · cases h
section
variable {P : Program} {w : World} {K : PySem.W.Frag} {mg : Str → Option Value} {base : Heap}
theorem lv_high (T : Tab K mg) {n : Nat} (hn : 20 ≤ n) (all : ∀ j, j ≤ n → ∀ f, FAt P w K mg base j f) (b : Bool) : LvAt P w K mg base n (lvName b) (lvD n b) := by
  obtain ⟨d1, r1, r2, r3, G1⟩ := (c_rk_ (P := P) (w := w) (base := base) T n).ex
  obtain ⟨d3, b1, b2, b3, G3⟩ := (c_bare_ (P := P) (w := w) (base := base) T n).ex
  have ss : ∀ {H H1 H2 H3 : Hp} {S : List Addr}, Same H H1 → Same H1 H2 → Fr S H2 H3 → (∀ b ∈ S, H b = none) → Same H H3 := fun s1 s2 f n b o e => f b o (s2 _ _ (s1 _ _ e)) fun m => by rw [n b m] at e; cases e
  cases b with
  | true =>
    obtain ⟨d2, i1, i2, i3, G2⟩ := (c_in_ (P := P) (w := w) (base := base) T n).ex
    refine ⟨_, _, _, d1, d2, d3, _, _, _, _, _, _, ⟨r3, r2, r1, G1⟩, ⟨i3, i2, i1, G2⟩, ⟨b3, b2, b1, G3⟩, fun a y d v H Q Qr ra hg q go => ?_⟩
    obtain ⟨t, k, rfl, rfl, hz, hb, _, rfl⟩ := lvD_inv hg
    have hh := ht_le t
    refine ⟨v, t, rfl, ra, by omega, fun A H1 s1 t1 n1 f1 => go A.v H1 s1 fun u H2 s2 ru => ?_⟩
    cases ru.intI
    refine ⟨A, ranked t, k, rfl, t1.same s2, n1, by rw [ranked_ht]; omega, fun A' H3 t3 n3 m3 f3 => ?_⟩
    refine ⟨A'.v, _, rfl, t3.rp, ?_, fun v' H' s' r' => q v' H' ((ss s1 s2 f3 f1).trans s') r'⟩
    have e := ht_sizeR (putIn (ranked t) k)
    rw [← bare_size, size_congr (putIn_keys _ _), withLeaf_size, bare_ranked] at e
    omega
  | false =>
    obtain ⟨d2, i1, i2, i3, G2⟩ := (c_out_ (P := P) (w := w) (base := base) T (all 10 (by omega) ._law_keys) n).ex
    refine ⟨_, _, _, d1, d2, d3, _, _, _, _, _, _, ⟨r3, r2, r1, G1⟩, ⟨i3, i2, i1, G2⟩, ⟨b3, b2, b1, G3⟩, fun a y d v H Q Qr ra hg q go => ?_⟩
    obtain ⟨t, k, rfl, rfl, hz, hb, hk, rfl⟩ := lvD_inv hg
    have hh := ht_le t
    refine ⟨v, t, rfl, ra, by omega, fun A H1 s1 t1 n1 f1 => go A.v H1 s1 fun u H2 s2 ru => ?_⟩
    cases ru.intI
    refine ⟨A, ranked t, k, rfl, t1.same s2, n1, by rw [bare_ranked]; exact hb, by rw [bare_ranked]; exact hk rfl, by rw [ranked_size]; exact hz, by rw [ranked_ht]; omega, fun A' H3 t3 n3 m3 f3 => ?_⟩
    refine ⟨A'.v, _, rfl, t3.rp, ?_, fun v' H' s' r' => q v' H' ((ss s1 s2 f3 f1).trans s') r'⟩
    have e := ht_sizeR (takeOut (ranked t) k)
    have e2 := takeOut_size t k hb (hk rfl)
    rw [← bare_size] at e
    omega
/-- every pure def keeps its promise, with any number of calls -/
theorem all_fn (T : Tab K mg) (n : Nat) (f : F) : FAt P w K mg base n f :=
  all_upto T (ok_keys T) (fun n ih => ok_run T ih) (fun n hn all b => lv_high T hn all b) n n (Nat.le_refl _) f
end
end TT
set_option Elab.async false
set_option linter.all false
set_option maxRecDepth 100000
set_option maxHeartbeats 4000000
/-! Drawing numbers. -/
namespace TT
open PySem PySem.Spec PyProof.Rows L2
section
variable {X : Cx}
def rGetL : V → V → Hp → VK → Prop := fun o i H Q => ∃ p xs k v, o = .ref p ∧ i = .int k ∧ H p = some (.lst xs) ∧ 0 ≤ k ∧ k < 2 ^ 63 ∧ xs[k.toNat]? = some v ∧ Q v H
theorem get_list : PGet X rGetL := by
  intro pins s σ H o i ov iv Q I ro ri h
  obtain ⟨p, xs, k, v, rfl, rfl, hp, h0, h1, hx, q⟩ := h
  cases ro
  obtain ⟨t, rfl⟩ := ri
  obtain ⟨its, r, pl, hz⟩ := I.list (SqL.of hp)
  obtain ⟨u, eu, ru⟩ := r.get hx
  exact wpAny_getItem_list pl.isList h0 h1 (by simpa using eu) ⟨v, H, I, ru, q⟩
theorem op_eqQ (hu : X.A.units + 64 < cLine) : OpR X (compareOp .Eq) (fun x y H Q => ∃ d e, Dp X.K H x d ∧ Dp X.K H y e ∧ d.plain = true ∧ e.plain = true ∧ eqOk d e = true ∧ Q (.bl (PyData.eqv d e)) H) := by
  intro pins s σ H x y v u Q I rx ry h
  obtain ⟨d, e, hd, he, pd, pe, ok, q⟩ := h
  obtain ⟨as, r1⟩ := Dp.reads I d x v hd rx
  obtain ⟨bs, r2⟩ := Dp.reads I e y u he ry
  refine SeqAt.eq_plain r1 r2 pd pe ?_ ⟨.bl _, H, I, rfl, q⟩
  simp only [eqOk, Bool.or_eq_true, decide_eq_true_eq] at ok
  omega
end
theorem plain_ints : ∀ ns : List Int, PyData.plainAll (ns.map PyData.int) = true
  | [] => rfl
  | n :: ns => by
    show (PyData.plain (.int n) && PyData.plainAll (ns.map PyData.int)) = true
    rw [plain_ints ns]
    rfl
theorem dp_ints {K : PySem.W.Frag} {H : Hp} : ∀ ns : List Int, DpAll K H (ns.map V.int) (ns.map PyData.int)
  | [] => .nil
  | n :: ns => .cons (.int n) (dp_ints ns)
section
variable {P : Program} {w : World} {K : PySem.W.Frag} {mg : Str → Option Value} {base : Heap}
/-- the script stands -/
def Scr (K : PySem.W.Frag) (H : Hp) (a : Addr) (ns : List Int) : Prop := SqL K H a (ns.map V.int)
/-- the script is another list than the town, or stands in the module's own part -/
def ANe (K : PySem.W.Frag) (a t : Addr) (ns : List Int) : Prop := a ≠ t ∨ ∃ (o : Obj) (its : Array Value) (n : Nat), K.lookup a = some o ∧ o.cls = .type "list" ∧ o.dict = none ∧ o.data = .seq its n ∧ its.size ≤ sizeLine ∧ Vals (ns.map V.int) its.toList
/-- the town: two numbers -/
def Town (H : Hp) (t : Addr) : Prop := ∃ at_ bg : Int, H t = some (.lst [.int at_, .int bg]) ∧ 0 ≤ at_
/-- a draw: below m -/
def spDraw (K : PySem.W.Frag) : Sp := fun vs H Q _ => ∃ a t m ns, vs = [.ref a, .ref t, .int m] ∧ Scr K H a ns ∧ ns.length ≤ 63 ∧ ANe K a t ns ∧ Town H t ∧ 1 ≤ m ∧ m < 1000 ∧ ∀ d H', 0 ≤ d → d < m → Town H' t → Fr [t] H H' → Q (.int d) H'
theorem scr_fr {H H' : Hp} {a t : Addr} {ns : List Int} (h : Scr K H a ns) (n : ANe K a t ns) (f : Fr [t] H H') : Scr K H' a ns := by
  rcases n with n | n
  · have nm : a ∉ [t] := fun m => n (List.mem_singleton.mp m)
    rcases h with (h | ⟨o, h⟩) | h
    · exact .inl (.inl (f _ _ h nm))
    · exact .inl (.inr ⟨o, f _ _ h nm⟩)
    · exact .inr h
  · exact .inr n
abbrev nDr : List Str := ["_law_script", "_law_town", "_law_many", "_law_one", "_law_at", "_law_mixed"]
theorem sDr : FnScope nDr ["_law_script", "_law_town", "_law_many"] (defScope (topS 76)) := scopeB_ok (by decide +kernel)
theorem at2_0 {a b : V} : atI [a, b] 0 = some a := at_nat _ 0 a rfl
theorem at2_1 {a b : V} : atI [a, b] 1 = some b := at_nat _ 1 b rfl
theorem ok_draw (T : Tab K mg) {fd : FuncData} (F : FDef K "_law_draw" 76 fd) (n : Nat) : FnOk P w K mg base CX0 (n + 1) (He.ga K "_law_draw") fd ["_law_script", "_law_town", "_law_many"] (spDraw K) := by
  refine F.ok sDr (fun vs H Q E h => by obtain ⟨a, t, m, ns, rfl, _⟩ := h; rfl) (fun cdv A outer s H vs Q E hr h => ?_)
  obtain ⟨a, t, m, ns, rfl, hs, hl, hne, ⟨at_, bg, ht, h0⟩, hm1, hm2, q⟩ := h
  have gl : Gl (BX P w K mg base nDr "_law_draw" 76 (He.ga K "_law_draw") cdv A outer s H E) "len" := rfl
  refine ⟨_, (pss_cons (ps_if (pt_cmpR op_gt (pe_ix ix_list (pv 1) pe_int (fun _ _ => rfl)) pe_int (nomark _))
      (pss_cons (ps_set (i := 3) sDr.nd rfl (Or.inl rfl) (pe_op op_mod (pe_ix ix_list (pv 1) pe_int (fun _ _ => rfl)) (pv 2)))
        (pss_cons (ps_asg (pe_op op_fdiv (pe_ix ix_list (pv 1) pe_int (fun _ _ => rfl)) (pv 2)) (pg_sub (pv 1) pe_int set_list))
          (pss_one (ps_ret (pv 3))))) pss_nil)
    (pss_cons (ps_set (i := 4) sDr.nd rfl (Or.inl rfl) (pe_ix ix_list (pv 1) pe_int (fun _ _ => rfl)))
    (pss_cons (ps_augS (pv 1) pe_int get_list pe_int ip_add set_list)
    (pss_cons (ps_if (pt_cmpR (op_eqQ hr.units) (pv 0) (pe_lst pa_nil) (nomark _)) (pss_one (ps_ret (pe_op op_mod (pv 4) (pv 2)))) pss_nil)
    (pss_cons (ps_if (PW.pt (pw_and (pt_cmpR op_lt (pv 4) (pe_callB (x := "len") call_len_seq gl (T.blt "len" (by decide +kernel)) PySem.boot_len (pa_cons (pv 0) pa_nil)) (nomark _)) (pw_and1 (pt_cmpR op_ge (pe_ix ix_list (pv 0) (pv 4) (fun _ _ => rfl)) (pe_op op_pow pe_int pe_int) (nomark _)))))
        (pss_cons (ps_asg (pe_op op_mod (pe_op op_fdiv (pe_ix ix_list (pv 0) (pv 4) (fun _ _ => rfl)) (pv 2)) (pe_op op_mulW (pe_op op_pow pe_int pe_int) (pe_op op_pow pe_int pe_int))) (pg_sub (pv 1) pe_int set_list))
          (pss_one (ps_ret (pe_op op_mod (pe_ix ix_list (pv 0) (pv 4) (fun _ _ => rfl)) (pv 2))))) pss_nil)
    (pss_cons (ps_set (i := 5) sDr.nd rfl (Or.inl rfl) (pe_op op_mod (pe_op op_add (pe_op op_add (pe_op op_mul (pe_ix ix_list (pv 0) (pe_op op_mod (pv 4) (pe_callB (x := "len") call_len_seq gl (T.blt "len" (by decide +kernel)) PySem.boot_len (pa_cons (pv 0) pa_nil))) (fun _ _ => rfl)) pe_int) (pe_op op_mul pe_int (pv 4))) pe_int) pe_int))
    (pss_one (ps_ret (pe_op op_mod (pe_op op_mod (pe_op op_mod (pe_op op_pow (pv 5) pe_int) pe_int) pe_int) (pv 2)))))))))).nox, ?_⟩
  have q2 : ∀ (d : Int) (H' : Hp), 0 ≤ d → d < m → Town H' t → Fr [t] H H' → Q (.int d) H' := q
  have mm : ∀ i : Int, 0 ≤ i % m ∧ i % m < m := fun i => ⟨Int.emod_nonneg _ (by omega), Int.emod_lt_of_pos _ (by omega)⟩
  have tt : t ∈ [t] := List.mem_singleton.mpr rfl
  have hcd : CDiv bg m := ⟨by omega, by omega⟩
  refine ⟨_, rfl, t, _, 1, _, rfl, rfl, SqL.of ht, at2_1, bg, 0, rfl, rfl, _, rfl, ?_⟩
  refine ite2 (fun _ => ?_) (fun _ => ?_)
  · refine ⟨_, rfl, t, _, 1, _, rfl, rfl, SqL.of ht, at2_1, _, rfl, bg, m, rfl, rfl, by omega, ?_⟩
    refine ⟨_, rfl, t, _, 1, _, rfl, rfl, SqL.of ht, at2_1, _, rfl, bg, m, rfl, rfl, hcd, ?_⟩
    refine ⟨_, rfl, t, _, 1, 1, rfl, rfl, ht, rfl, _, rfl, ?_⟩
    exact q2 _ _ (mm bg).1 (mm bg).2 ⟨at_, bg / m, upd_same, h0⟩ (Fr.put tt)
  · refine ⟨_, rfl, t, _, 0, _, rfl, rfl, SqL.of ht, at2_0, ?_⟩
    refine ⟨_, rfl, t, _, 0, _, rfl, rfl, ht, by decide, by decide, rfl, at_, 1, rfl, rfl, t, _, 0, 0, rfl, rfl, ht, rfl, ?_⟩
    have f1 : Fr [t] H (upd H t (.lst ([V.int at_, .int bg].set 0 (.int (at_ + 1))))) := Fr.put tt
    have ht1 : (upd H t (.lst ([V.int at_, .int bg].set 0 (.int (at_ + 1))))) t = some (.lst [.int (at_ + 1), .int bg]) := upd_same
    generalize upd H t (.lst ([V.int at_, .int bg].set 0 (.int (at_ + 1)))) = H1 at *
    have hs1 := scr_fr hs hne f1
    refine ⟨_, rfl, Nat.zero_le _, fun p np => ?_⟩
    have s12 : Same H1 (upd H1 p (.lst [])) := same_upd np
    have ep : (upd H1 p (.lst [])) p = some (.lst []) := upd_same
    have f2 := f1.trans (Fr.same (S := []) s12) fun b m => nomatch m
    have ht2 := s12 _ _ ht1
    have hs2 : Scr K (upd H1 p (.lst [])) a ns := scr_fr (t := t) hs1 hne (Fr.same s12)
    generalize upd H1 p (.lst []) = H2 at *
    refine ⟨.list (ns.map PyData.int), .list [], .lst hs2 (dp_ints ns), .lst (SqL.of ep) .nil, plain_ints ns, rfl, eqOk_nilL _, _, rfl, ?_⟩
    refine ite2 (fun _ => ?_) (fun ce => ?_)
    · refine ⟨_, rfl, _, rfl, at_, m, rfl, rfl, by omega, ?_⟩
      exact q2 _ _ (mm at_).1 (mm at_).2 ⟨at_ + 1, bg, ht2, by omega⟩ f2
    · have hpos : 0 < ns.length := by
        cases ns with
        | nil => exact absurd (show PyData.eqv (.list []) (.list []) = true by decide +kernel) ce
        | cons _ _ => exact Nat.succ_pos _
      have hll : (ns.map V.int).length = ns.length := List.length_map _
      -- the last two statements
      have tail : ∀ {D : Ends}, (∀ d H', 0 ≤ d → d < m → Town H' t → Fr [t] H H' → D.rt (.int d) H') → ∀ (x3 : Option V),
          ∃ v, [some (V.ref a), some (.ref t), some (.int m), x3, some (.int at_), none][0]? = some (some v) ∧ ∃ v4, [some (V.ref a), some (.ref t), some (.int m), x3, some (.int at_), none][4]? = some (some v4) ∧
            ∃ v0, [some (V.ref a), some (.ref t), some (.int m), x3, some (.int at_), none][0]? = some (some v0) ∧ ∃ p ys, [v0] = [V.ref p] ∧ (SqL K H2 p ys ∨ SqT K H2 p ys) ∧ rI (fun _ j => 0 < j) (fun i j => V.int (i % j)) v4 (.int (ys.length : Int)) H2 fun ix H3 =>
              rIxL K v ix H3 fun y H4 => rI CMul (fun i j => V.int (i * j)) y (.int 1103515245) H4 fun z H5 => ∃ v5, [some (V.ref a), some (.ref t), some (.int m), x3, some (.int at_), none][4]? = some (some v5) ∧ rI CMul (fun i j => V.int (i * j)) (.int 7919) v5 H5 fun z2 H6 => rI0 (fun i j => V.int (i + j)) z z2 H6 fun z3 H7 =>
                rI0 (fun i j => V.int (i + j)) z3 (.int 12345) H7 fun z4 H8 => rI (fun _ j => 0 < j) (fun i j => V.int (i % j)) z4 (.int 2147483647) H8 fun z5 H9 =>
                  ∃ w5, [some (V.ref a), some (.ref t), some (.int m), x3, some (.int at_), some z5][5]? = some (some w5) ∧ rI CPow (fun i j => V.int (i ^ j.toNat)) w5 (.int 5) H9 fun u1 G1 => rI (fun _ j => 0 < j) (fun i j => V.int (i % j)) u1 (.int 2147483647) G1 fun u2 G2 => rI (fun _ j => 0 < j) (fun i j => V.int (i % j)) u2 (.int 999983) G2 fun u3 G3 =>
                    ∃ w2, [some (V.ref a), some (.ref t), some (.int m), x3, some (.int at_), some z5][2]? = some (some w2) ∧ rI (fun _ j => 0 < j) (fun i j => V.int (i % j)) u3 w2 G3 D.rt := by
        intro D qd x3
        have hj : (at_ % (ns.length : Int)).toNat < ns.length := by
          have h1 := Int.emod_nonneg at_ (show (ns.length : Int) ≠ 0 by omega)
          have h2 := Int.emod_lt_of_pos at_ (show (0 : Int) < ns.length by omega)
          omega
        have hix : atI (ns.map V.int) (at_ % ((ns.map V.int).length : Int)) = some (.int ns[(at_ % (ns.length : Int)).toNat]) := by
          have h1 := Int.emod_nonneg at_ (show (ns.length : Int) ≠ 0 by omega)
          rw [hll]
          have e : at_ % (ns.length : Int) = (((at_ % (ns.length : Int)).toNat : Nat) : Int) := by omega
          have z : (ns.map V.int)[(at_ % (ns.length : Int)).toNat]? = some (.int ns[(at_ % (ns.length : Int)).toNat]) := by rw [List.getElem?_map, List.getElem?_eq_getElem hj]; rfl
          have := atI_nat z
          rw [← e] at this
          exact this
        refine ⟨_, rfl, _, rfl, _, rfl, a, _, rfl, .inl hs2, at_, _, rfl, rfl, by rw [hll]; omega, a, _, _, _, rfl, rfl, hs2, hix, _, _, rfl, rfl, .inr ⟨by decide, by decide⟩, _, rfl, 7919, at_, rfl, rfl, .inl ⟨by decide, by decide⟩, _, _, rfl, rfl, _, 12345, rfl, rfl, _, 2147483647, rfl, rfl, (show (0 : Int) < 2147483647 by decide), ?_⟩
        generalize (ns[(at_ % (ns.length : Int)).toNat] * 1103515245 + 7919 * at_ + 12345) = mx
        have h1 := Int.emod_nonneg mx (show (2147483647 : Int) ≠ 0 by decide)
        have h2 := Int.emod_lt_of_pos mx (show (0 : Int) < 2147483647 by decide)
        refine ⟨_, rfl, _, 5, rfl, rfl, ⟨by decide, by decide, by omega⟩, _, 2147483647, rfl, rfl, (show (0 : Int) < 2147483647 by decide), _, 999983, rfl, rfl, (show (0 : Int) < 999983 by decide), _, rfl, _, m, rfl, rfl, by omega, ?_⟩
        exact qd _ _ (mm _).1 (mm _).2 ⟨at_ + 1, bg, ht2, by omega⟩ f2
      refine ⟨_, rfl, _, rfl, a, _, rfl, .inl hs2, at_, _, rfl, rfl, _, rfl, ?_⟩
      refine ite2 (fun c1 => ?_) (fun _ => ?_)
      · have c1 : at_ < ((ns.map V.int).length : Int) := of_decide_eq_true c1
        rw [hll] at c1
        have hj : at_.toNat < ns.length := by omega
        have hix : atI (ns.map V.int) at_ = some (.int ns[at_.toNat]) := by
          have e : at_ = ((at_.toNat : Nat) : Int) := by omega
          have z : (ns.map V.int)[at_.toNat]? = some (.int ns[at_.toNat]) := by rw [List.getElem?_map, List.getElem?_eq_getElem hj]; rfl
          have := atI_nat z
          rw [← e] at this
          exact this
        refine ⟨_, rfl, _, rfl, a, _, _, _, rfl, rfl, hs2, hix, 10, 18, rfl, rfl, ⟨by decide, by decide, by decide⟩, _, _, rfl, rfl, _, rfl, ?_⟩
        refine ite2 (fun _ => ?_) (fun _ => ?_)
        · refine ⟨_, rfl, _, rfl, a, _, _, _, rfl, rfl, hs2, hix, _, rfl, _, m, rfl, rfl, ⟨by omega, by omega⟩, 10, 60, rfl, rfl, ⟨by decide, by decide, by decide⟩, 10, 60, rfl, rfl, ⟨by decide, by decide, by decide⟩, _, _, rfl, rfl, (by show CMulW _ _; unfold CMulW; decide +kernel), _, _, rfl, rfl, (show (0 : Int) < 10 ^ (60 : Int).toNat * 10 ^ (60 : Int).toNat by decide +kernel), ?_⟩
          refine ⟨_, rfl, t, _, 1, 1, rfl, rfl, ht2, rfl, ?_⟩
          have f3 : Fr [t] H (upd H2 t (.lst ([V.int (at_ + 1), .int bg].set 1 (.int (ns[at_.toNat] / m % (10 ^ (60 : Int).toNat * 10 ^ (60 : Int).toNat)))))) := f2.trans (Fr.put tt) fun b m => .inl m
          have hs3 := scr_fr hs hne f3
          refine ⟨_, rfl, _, rfl, a, _, _, _, rfl, rfl, hs3, hix, _, rfl, _, m, rfl, rfl, by omega, ?_⟩
          exact q2 _ _ (mm _).1 (mm _).2 ⟨at_ + 1, _, upd_same, by omega⟩ f3
        · exact tail (D := { nx := fun _ H' => Q .non H', rt := Q }) q2 none
      · exact tail (D := { nx := fun _ H' => Q .non H', rt := Q }) q2 none
end
end TT
set_option Elab.async false
set_option linter.all false
set_option maxRecDepth 100000
set_option maxHeartbeats 4000000
/-! Drawing rules. -/
namespace TT
open PySem PySem.Spec PyProof.Rows L2
/-! ### what stays when a list is changed elsewhere -/
theorem sqT_fr {K : PySem.W.Frag} {H H' : Hp} {t p : Addr} {xs ys : List V} (h : H t = some (.lst xs)) (f : Fr [t] H H') (q : SqT K H p ys) : SqT K H' p ys := by
  have ne : ∀ {u : HO}, H p = some u → (∀ zs, u ≠ .lst zs) → p ∉ [t] := fun e n m => by
    rw [List.mem_singleton.mp m, h] at e
    cases e
    exact n xs rfl
  rcases q with (q | ⟨ob, q⟩) | q
  · exact .inl (.inl (f _ _ q (ne q fun _ => HO.noConfusion)))
  · exact .inl (.inr ⟨ob, f _ _ q (ne q fun _ => HO.noConfusion)⟩)
  · exact .inr q
mutual
theorem Rp.fr {K : PySem.W.Frag} {H H' : Hp} {t : Addr} {xs : List V} (h : H t = some (.lst xs)) (f : Fr [t] H H') : ∀ {v : V} {d : D}, Rp K H v d → noL d = true → Rp K H' v d
  | _, _, .non, _ => .non
  | _, _, .bl b, _ => .bl b
  | _, _, .int i, _ => .int i
  | _, _, .str x, _ => .str x
  | _, _, .lst _ _, n => nomatch n
  | _, _, .tup q r, n => .tup (sqT_fr h f q) (RpA.fr h f r n)
theorem RpA.fr {K : PySem.W.Frag} {H H' : Hp} {t : Addr} {xs : List V} (h : H t = some (.lst xs)) (f : Fr [t] H H') : ∀ {vs : List V} {ds : List D}, RpA K H vs ds → noLs ds = true → RpA K H' vs ds
  | _, _, .nil, _ => .nil
  | _, _, .cons (d := d) (ds := ds) r rs, n => by
    have n : (noL d && noLs ds) = true := n
    rw [Bool.and_eq_true] at n
    exact .cons (Rp.fr h f r n.1) (RpA.fr h f rs n.2)
end
theorem LL.fr {K : PySem.W.Frag} {H H' : Hp} {t b : Addr} {xs : List V} {ds : List D} (e : H t = some (.lst xs)) (f : Fr [t] H H') (h : LL K H b ds) (ne : b ≠ t) : LL K H' b ds := by
  obtain ⟨ys, q, r⟩ := h.ex
  exact ⟨⟨ys, f _ _ q fun m => ne (List.mem_singleton.mp m), r.fr e f h.nl⟩, h.nl⟩
theorem sqL_fr {K : PySem.W.Frag} {H H' : Hp} {b t : Addr} {xs : List V} (h : SqL K H b xs) (n : b ≠ t) (f : Fr [t] H H') : SqL K H' b xs := by
  have nm : b ∉ [t] := fun m => n (List.mem_singleton.mp m)
  rcases h with (h | ⟨o, h⟩) | h
  · exact .inl (.inl (f _ _ h nm))
  · exact .inl (.inr ⟨o, f _ _ h nm⟩)
  · exact .inr h
theorem rpA_ints {K : PySem.W.Frag} {H : Hp} : ∀ ns : List Int, RpA K H (ns.map V.int) (ns.map PyData.int)
  | [] => .nil
  | n :: ns => .cons (.int n) (rpA_ints ns)
theorem Town.same {H H' : Hp} {t : Addr} (s : Same H H') (h : Town H t) : Town H' t := by
  obtain ⟨a, b, e, h0⟩ := h
  exact ⟨a, b, s _ _ e, h0⟩
theorem Town.ex {H : Hp} {t : Addr} (h : Town H t) : ∃ xs, H t = some (.lst xs) := by
  obtain ⟨a, b, e, _⟩ := h
  exact ⟨_, e⟩
@[simp] theorem o_neLi {ks : List Int} : op2 .ne (.list (ks.map PyData.int)) (.list []) = some (.bool (!ks.isEmpty)) := by
  have h := eqOk_nilL (.list (ks.map PyData.int))
  cases ks with
  | nil => rw [op2, if_pos h]; rfl
  | cons _ _ => rw [op2, if_pos h]; rfl
section
variable {P : Program} {w : World} {K : PySem.W.Frag} {mg : Str → Option Value} {base : Heap}
theorem c_draw_ (T : Tab K mg) (n : Nat) : Cl1 P w K mg base (n + 1) "_law_draw" ["_law_script", "_law_town", "_law_many"] (spDraw K) := by
  obtain ⟨fd, F⟩ := T.def_ 59 (x := "_law_draw") (i := 76) rfl
  exact ⟨fd, bind3 F fun _ _ _ _ _ _ _ _ _ => rfl, F.kp, T.glo 59 rfl, ok_draw T F n⟩
/-! ### pick -/
def spPick (K : PySem.W.Frag) : Sp := fun vs H Q _ => ∃ a t b ns xs, vs = [.ref a, .ref t, .ref b] ∧ Scr K H a ns ∧ ns.length ≤ 63 ∧ ANe K a t ns ∧ Town H t ∧ SqL K H b xs ∧ b ≠ t ∧ 0 < xs.length ∧ xs.length < 1000 ∧ ∀ v H', v ∈ xs → Town H' t → Fr [t] H H' → Q v H'
abbrev nPi : List Str := ["_law_script", "_law_town", "_law_some"]
theorem sPi : FnScope nPi ["_law_script", "_law_town", "_law_some"] (defScope (topS 77)) := scopeB_ok (by decide +kernel)
theorem c_pick_ (T : Tab K mg) (n : Nat) : Cl1 P w K mg base (n + 2) "_law_pick" ["_law_script", "_law_town", "_law_some"] (spPick K) := by
  obtain ⟨fd, F⟩ := T.def_ 60 (x := "_law_pick") (i := 77) rfl
  refine ⟨fd, bind3 F fun _ _ _ _ _ _ _ _ _ => rfl, F.kp, T.glo 60 rfl, ?_⟩
  obtain ⟨gd, g1, g2, g3, G⟩ := (c_draw_ (P := P) (w := w) (base := base) T n).ex
  refine F.ok sPi (fun vs H Q E h => by obtain ⟨a, t, b, ns, xs, rfl, _⟩ := h; rfl) (fun cdv A outer s H vs Q E hr h => ?_)
  obtain ⟨a, t, b, ns, xs, rfl, hs, hl, hne, ht, hb, hbt, h0, h1, q⟩ := h
  have gl : Gl (BX P w K mg base nPi "_law_pick" 77 (He.ga K "_law_pick") cdv A outer s H E) "len" := rfl
  have gdr : Gl (BX P w K mg base nPi "_law_pick" 77 (He.ga K "_law_pick") cdv A outer s H E) "_law_draw" := rfl
  refine ⟨_, (pss_one (ps_ret (pe_ix ix_list (pv 2) (pe_call (x := "_law_draw") G hr gdr g3 g2 g1 .nil pass0 (pa_cons (pv 0) (pa_cons (pv 1) (pa_cons (pe_callB (x := "len") call_len_seq gl (T.blt "len" (by decide +kernel)) PySem.boot_len (pa_cons (pv 2) pa_nil)) pa_nil)))) (fun _ _ => rfl)))).nox, ?_⟩
  refine ⟨_, rfl, _, rfl, _, rfl, _, rfl, b, xs, rfl, .inl hb, ?_⟩
  refine ⟨a, t, (xs.length : Int), ns, rfl, hs, hl, hne, ht, by omega, by omega, fun d H' d0 d1 ht' f => ?_⟩
  have hj : d.toNat < xs.length := by omega
  have hx : xs[d.toNat]? = some xs[d.toNat] := List.getElem?_eq_getElem hj
  have hd : d = ((d.toNat : Nat) : Int) := by omega
  refine ⟨b, xs, d, xs[d.toNat], rfl, rfl, sqL_fr hb hbt f, ?_, q _ H' (List.getElem_mem hj) ht' f⟩
  have := atI_nat hx
  rw [← hd] at this
  exact this
/-! ### ranks -/
def spRanks (K : PySem.W.Frag) : Sp := fun vs H Q _ => ∃ a t ns, vs = [.ref a, .ref t] ∧ Scr K H a ns ∧ ns.length ≤ 63 ∧ ANe K a t ns ∧ Town H t ∧ ∀ ru v H', RuleOk ru → Rp K H' v (encRule ru) → Town H' t → Fr [t] H H' → Q v H'
abbrev nRa : List Str := ["_law_script", "_law_town", "_law_left", "_law_order_here"]
theorem sRa : FnScope nRa ["_law_script", "_law_town"] (defScope (topS 109)) := scopeB_ok (by decide +kernel)
theorem erase_map (xs : List Int) (k : Nat) : (xs.map V.int).eraseIdx k = (xs.eraseIdx k).map V.int := by
  induction xs generalizing k with
  | nil => rfl
  | cons x r ih =>
    cases k with
    | zero => rfl
    | succ k => simp [List.eraseIdx, ih]
theorem erase_perm : ∀ (xs : List Int) (k : Nat) (h : k < xs.length), (xs[k] :: xs.eraseIdx k).Perm xs
  | [], _, h => by simp at h
  | x :: r, 0, _ => List.Perm.refl _
  | x :: r, k + 1, h => ((List.Perm.swap x (r[k]'(by simpa using h)) (r.eraseIdx k)).trans ((erase_perm r k (by simpa using h)).cons x))
theorem c_ranks_ (T : Tab K mg) (n : Nat) : Cl1 P w K mg base (n + 2) "_law_ranks" ["_law_script", "_law_town"] (spRanks K) := by
  obtain ⟨fd, F⟩ := T.def_ 91 (x := "_law_ranks") (i := 109) rfl
  refine ⟨fd, bind2 F fun _ _ _ _ _ _ _ _ => rfl, F.kp, T.glo 91 rfl, ?_⟩
  obtain ⟨gd, g1, g2, g3, G⟩ := (c_draw_ (P := P) (w := w) (base := base) T n).ex
  refine F.ok sRa (fun vs H Q E h => by obtain ⟨a, t, ns, rfl, _⟩ := h; rfl) (fun cdv A outer s H vs Q E hr h => ?_)
  obtain ⟨a, t, ns, rfl, hs, hl, hne, ht, q⟩ := h
  have ok := hand_sok0 (P := P) (w := w) (base := base) T sRa (outer := outer) (H := H) (E := E) hr
  have gl : Gl (BX P w K mg base nRa "_law_ranks" 109 (He.ga K "_law_ranks") cdv A outer s H E) "len" := rfl
  refine ⟨_, (pss_cons (ps_par (i := 2) (j := 3) rfl sRa.nd rfl rfl (by decide) rfl rfl (pa_cons (pe_lst (pa_cons pe_int (pa_cons pe_int (pa_cons pe_int (pa_cons pe_int (pa_cons pe_int (pa_cons pe_int pa_nil))))))) (pa_cons (pe_lst pa_nil) pa_nil)) (by rfl))
    (pss_cons (ps_while PassesOwn.never (sT ok (.b2 .ne (.var 2) (.lst .nil)) rfl (by decide +kernel))
      (pss_one (ps_expr (pe_bm PySem.F.plainAttrs_list PySem.F.slot_list_append PySem.F.type_list_append mt_append (pv 3)
        (pa_cons (pe_bm PySem.F.plainAttrs_list PySem.F.slot_list_pop PySem.F.type_list_pop mt_popAt (pv 2)
          (pa_cons (pe_call (x := "_law_draw") G hr rfl g3 g2 g1 .nil pass0 (pa_cons (pv 0) (pa_cons (pv 1) (pa_cons (pe_callB (x := "len") call_len_seq gl (T.blt "len" (by decide +kernel)) PySem.boot_len (pa_cons (pv 2) pa_nil)) pa_nil)))) pa_nil)) pa_nil)))))
    (pss_one (ps_ret (pe_tup (pa_cons pe_str (pa_cons (pe_tupleOf rfl (T.blt "tuple" (by decide +kernel)) (pv 3)) pa_nil))))))).nox, ?_⟩
  refine ⟨(by show 6 ≤ sizeLine; decide), fun l nl => ⟨Nat.zero_le _, fun o no => ⟨_, _, rfl, ?_⟩⟩⟩
  have a1 : Same H (upd H l (.lst [.int 1, .int 2, .int 3, .int 4, .int 5, .int 6])) := same_upd nl
  have a2 : Same (upd H l (.lst [.int 1, .int 2, .int 3, .int 4, .int 5, .int 6])) (upd (upd H l (.lst [.int 1, .int 2, .int 3, .int 4, .int 5, .int 6])) o (.lst [])) := same_upd no
  have el : (upd (upd H l (.lst [.int 1, .int 2, .int 3, .int 4, .int 5, .int 6])) o (.lst [])) l = some (.lst [.int 1, .int 2, .int 3, .int 4, .int 5, .int 6]) := a2 _ _ upd_same
  have eo : (upd (upd H l (.lst [.int 1, .int 2, .int 3, .int 4, .int 5, .int 6])) o (.lst [])) o = some (.lst []) := upd_same
  have sH := a1.trans a2
  have mo : H o = none := by
    cases z : H o with
    | none => rfl
    | some u => have := a1 _ _ z; rw [no] at this; cases this
  have lo : l ≠ o := fun z => by subst z; rw [upd_same] at no; cases no
  have lt : l ≠ t := fun z => by obtain ⟨xs, e⟩ := ht.ex; rw [← z, nl] at e; cases e
  have ot : o ≠ t := fun z => by obtain ⟨xs, e⟩ := ht.ex; rw [← z, mo] at e; cases e
  generalize (upd (upd H l (.lst [.int 1, .int 2, .int 3, .int 4, .int 5, .int 6])) o (.lst [])) = G0 at *
  clear a1 a2
  refine ⟨fun m σ H' => ∃ ls os : List Int, σ = [some (.ref a), some (.ref t), some (.ref l), some (.ref o)] ∧ H' l = some (.lst (ls.map V.int)) ∧ H' o = some (.lst (os.map V.int)) ∧ Town H' t ∧ Fr [t] H H' ∧ (os ++ ls).Perm [1, 2, 3, 4, 5, 6] ∧ m = ls.length,
    ⟨6, [1, 2, 3, 4, 5, 6], [], rfl, el, eo, ht.same sH, Fr.same sH, List.Perm.refl _, rfl⟩, ?_⟩
  rintro m σ H' ⟨ls, os, rfl, hl1, ho1, ht1, f1, pm, rfl⟩
  have hlen := pm.length_eq
  rw [List.length_append] at hlen
  have hlen : os.length + ls.length = 6 := hlen
  refine ⟨_, !ls.isEmpty, envR_skip (envR_skip (envR_cons (.lst hl1 (rpA_ints ls)) (envR_skip envR_nil))), by simp, fun H1 s1 => ?_⟩
  have hl2 := s1 _ _ hl1
  have ho2 := s1 _ _ ho1
  have ht2 := ht1.same s1
  have f2 := f1.trans (Fr.same (S := []) s1) fun b m => nomatch m
  cases he : ls.isEmpty with
  | false =>
    have hpos : 0 < ls.length := by
      cases ls with
      | nil => exact nomatch he
      | cons _ _ => exact Nat.succ_pos _
    refine (if_pos rfl).mpr ⟨fun σ' H'' => ∃ m', m' < ls.length ∧ ∃ ls os : List Int, σ' = [some (.ref a), some (.ref t), some (.ref l), some (.ref o)] ∧ H'' l = some (.lst (ls.map V.int)) ∧ H'' o = some (.lst (os.map V.int)) ∧ Town H'' t ∧ Fr [t] H H'' ∧ (os ++ ls).Perm [1, 2, 3, 4, 5, 6] ∧ m' = ls.length, fun σ' H'' h => h, ?_⟩
    refine ⟨_, rfl, .inl ⟨rfl, _, SqL.of ho2⟩, _, rfl, .inl ⟨rfl, _, SqL.of hl2⟩, _, rfl, _, rfl, _, rfl, l, _, rfl, .inl (SqL.of hl2), ?_⟩
    refine ⟨a, t, _, ns, rfl, scr_fr hs hne f2, hl, hne, ht2, by rw [List.length_map]; omega, by rw [List.length_map]; omega, fun d H2 d0 d1 ht3 f3 => ?_⟩
    rw [List.length_map] at d1
    have hj : d.toNat < ls.length := by omega
    have hl3 := f3 _ _ hl2 fun m => lt (List.mem_singleton.mp m)
    have ho3 := f3 _ _ ho2 fun m => ot (List.mem_singleton.mp m)
    refine ⟨l, _, d, d.toNat, .int ls[d.toNat], rfl, rfl, hl3, by omega, by omega, by rw [List.length_map]; exact seqIndex_of d0 d1, by rw [List.getElem?_map, List.getElem?_eq_getElem hj]; rfl, ?_⟩
    refine ⟨o, _, _, rfl, rfl, (upd_ne fun z => lo z.symm).trans ho3, by rw [List.length_map]; exact small1000 (by omega), ?_⟩
    refine ⟨(ls.eraseIdx d.toNat).length, by rw [List.length_eraseIdx_of_lt hj]; omega, ls.eraseIdx d.toNat, os ++ [ls[d.toNat]], rfl, (upd_ne lo).trans (by rw [upd_same, erase_map]), by rw [upd_same, List.map_append]; rfl, ?_, ?_, ?_, rfl⟩
    · obtain ⟨x, y, e, h0⟩ := ht3
      exact ⟨x, y, (upd_ne fun z => ot z.symm).trans ((upd_ne fun z => lt z.symm).trans e), h0⟩
    · refine ((f2.trans f3 fun b m => .inl m).trans (Fr.put (S := [l]) (List.mem_singleton.mpr rfl)) fun b m => .inr (by rw [List.mem_singleton.mp m]; exact nl)).trans (Fr.put (S := [o]) (List.mem_singleton.mpr rfl)) fun b m => .inr (by rw [List.mem_singleton.mp m]; exact mo)
    · rw [List.append_assoc]
      exact ((erase_perm ls d.toNat hj).append_left os).trans pm
  | true =>
    refine (if_neg (by simp)).mpr ?_
    have e0 : ls = [] := List.isEmpty_iff.mp he
    subst e0
    rw [List.append_nil] at pm
    refine ⟨_, rfl, .inl ⟨o, _, rfl, SqL.of ho2, fun p np => ?_⟩⟩
    refine ⟨fit2, fun p2 np2 => ?_⟩
    have s3 : Same H1 (upd H1 p (.tup (os.map V.int))) := same_upd np
    have s4 : Same (upd H1 p (.tup (os.map V.int))) (upd (upd H1 p (.tup (os.map V.int))) p2 (.tup [.str "ranks", .ref p])) := same_upd np2
    refine q (.ranks os) _ _ pm (.tup (.inl (.inl upd_same)) (.cons (.str _) (.cons (.tup (.inl (.inl (s4 _ _ upd_same))) (rpA_ints os)) .nil))) (ht2.same (s3.trans s4)) (f2.trans (Fr.same (S := []) (s3.trans s4)) fun b m => nomatch m)
end
end TT
set_option Elab.async false
set_option linter.all false
set_option maxRecDepth 100000
set_option maxHeartbeats 4000000
/-! Drawing rules, deeds. -/
namespace TT
open PySem PySem.Spec PyProof.Rows L2
/-! ### name = [x for x in range(a, b) if ..] -/
def rgD (lo : Int) (n : Nat) : List D := (List.range n).map fun j : Nat => PyData.int (lo + j)
theorem rgD_get {lo : Int} {n i : Nat} (h : i < n) : (rgD lo n).drop i = .int (lo + i) :: (rgD lo n).drop (i + 1) := by
  have hl : i < (rgD lo n).length := by unfold rgD; rw [List.length_map, List.length_range]; exact h
  have e : (rgD lo n)[i]? = some (.int (lo + i)) := by unfold rgD; rw [List.getElem?_map, List.getElem?_range h]; rfl
  rw [List.getElem?_eq_getElem hl] at e
  rw [List.drop_eq_getElem_cons hl, Option.some.inj e]
theorem none_same {H H' : Hp} {p : Addr} (s : Same H H') (h : H' p = none) : H p = none := by
  cases z : H p with
  | none => rfl
  | some o => rw [s _ _ z] at h; cases h
theorem lc_readR {X : Cx} {i0 : Nat} {ta : TA} {tt : TT} {te : TE} {fe : Rho → Option D} {fc : Rho → Option Bool} {lo hi : Int}
    (qt : ∀ (σ : L2.St) (H : Hp) (ρ : Rho) (b : Bool) (Q : Bool → Hp → Prop), EnvR X.K H σ ρ → fc ρ = some b → (∀ H', Same H H' → Q b H') → tt σ H Q) (qe : ∀ (σ : L2.St) (H : Hp) (ρ : Rho) (d : D) (Q : VK), EnvR X.K H σ ρ → fe ρ = some d → QOk X.K H d Q → te σ H Q)
    (σ : L2.St) (H : Hp) (ρ : Rho) (ys : List D) (Q : VK) (E : EnvR X.K H σ ρ) (hta : ∀ R : List V → Hp → Prop, (∀ H1, Same H H1 → R [.int lo, .int hi] H1) → ta σ H R) (b1 : 0 ≤ lo ∧ lo ≤ 1000 ∧ 0 ≤ hi ∧ hi ≤ 1000)
    (h : compGo (fun d => fc (setE ρ i0 d)) (fun d => fe (setE ρ i0 d)) (rgD lo (hi - lo).toNat) = some ys) (q : ∀ p H', H p = none → Same H H' → H' p = some (.lst (ys.map vOf)) → Q (.ref p) H') : tLc (iRng2 ta) (gName i0) tt te [i0] σ H Q := by
  refine hta _ fun H1 s1 => ⟨lo, hi, rfl, ⟨by omega, by omega, by omega, by omega⟩, fun Dl nD => ?_⟩
  refine lc_range (lo := lo) (n := (hi - lo).toNat) (fun i H' => Same H1 H' ∧ ∃ done rest, H' Dl = some (.lst (done.map vOf)) ∧ done.all flatD = true ∧ done.length ≤ i ∧ compGo (fun d => fc (setE ρ i0 d)) (fun d => fe (setE ρ i0 d)) ((rgD lo (hi - lo).toNat).drop i) = some rest ∧ done ++ rest = ys) ?_ ?_ ?_
  · exact ⟨same_upd nD, [], ys, upd_same, rfl, Nat.le_refl _, h, rfl⟩
  · rintro i H' hi2 ⟨s', done, rest, hD, hf, hle, hgo, hcat⟩
    rw [rgD_get hi2] at hgo
    refine comp_turn nD s' (E.mono s1) (.int _) hD hf (by omega) hgo (fun σ' H'' b Q' E' hb hq => qt σ' H'' _ b Q' E' hb hq) (fun σ' H'' y Q' E' hy hq => qe σ' H'' _ y Q' E' hy hq) fun H'' done' rest' s'' hD' hf' hl' hgo' hcat' => ?_
    exact ⟨s'', done', rest', hD', hf', by omega, hgo', by rw [hcat', hcat]⟩
  · rintro H' ⟨s', done, rest, hD, hf, hle, hgo, hcat⟩
    rw [List.drop_eq_nil_of_le (by unfold rgD; rw [List.length_map, List.length_range]; exact Nat.le_refl _)] at hgo
    cases hgo
    rw [List.append_nil] at hcat
    subst hcat
    exact q Dl H' (none_same s1 nD) (s1.trans s') hD
theorem lc_readN {X : Cx} {i0 : Nat} {ts : TE} {tt : TT} {te : TE} {fs fe : Rho → Option D} {fc : Rho → Option Bool} (qs : ∀ (σ : L2.St) (H : Hp) (ρ : Rho) (d : D) (Q : VK), EnvR X.K H σ ρ → fs ρ = some d → QOk X.K H d Q → ts σ H Q)
    (qt : ∀ (σ : L2.St) (H : Hp) (ρ : Rho) (b : Bool) (Q : Bool → Hp → Prop), EnvR X.K H σ ρ → fc ρ = some b → (∀ H', Same H H' → Q b H') → tt σ H Q) (qe : ∀ (σ : L2.St) (H : Hp) (ρ : Rho) (d : D) (Q : VK), EnvR X.K H σ ρ → fe ρ = some d → QOk X.K H d Q → te σ H Q)
    (σ : L2.St) (H : Hp) (ρ : Rho) (d : D) (Q : VK) (E : EnvR X.K H σ ρ) (h : ((fs ρ).bind fun x => (asL x).bind fun ds => if ds.length ≤ 1000 then (compGo (fun d => fc (setE ρ i0 d)) (fun d => fe (setE ρ i0 d)) ds).bind fun ys => some (.list ys) else none) = some d)
    (q : ∀ ys p H', d = .list ys → H p = none → Same H H' → H' p = some (.lst (ys.map vOf)) → Q (.ref p) H') : tLc (iList X.K ts) (gName i0) tt te [i0] σ H Q := by
  obtain ⟨z, hz, h⟩ := bind_some h
  obtain ⟨ds, hds, h9⟩ := bind_some h
  cases asL_some hds
  split at h9
  · rename_i hlen
    obtain ⟨ys, hys, h8⟩ := bind_some h9
    cases h8
    refine qs σ H ρ _ _ E hz fun v H1 s1 r1 => ?_
    obtain ⟨a, xs, rfl, ha, rx⟩ := r1.lstI
    refine ⟨a, rfl, ⟨xs, SqL.of ha⟩, fun Dl nD => ?_⟩
    refine lc_list (K := X.K) (a := a) (xs := xs) (fun i H' => Same H1 H' ∧ ∃ done rest, H' Dl = some (.lst (done.map vOf)) ∧ done.all flatD = true ∧ done.length ≤ i ∧ compGo (fun d => fc (setE ρ i0 d)) (fun d => fe (setE ρ i0 d)) (ds.drop i) = some rest ∧ done ++ rest = ys) ?_ ?_ ?_ ?_
    · exact ⟨same_upd nD, [], ys, upd_same, rfl, Nat.le_refl _, hys, rfl⟩
    · rintro i H' _ ⟨s', _⟩
      exact SqL.of (s' _ _ ha)
    · rintro i x' H' hxi ⟨s', done, rest, hD, hf, hle, hgo, hcat⟩
      have hi : i < ds.length := by
        rw [← rx.length]
        exact (List.getElem?_eq_some_iff.mp hxi).1
      obtain ⟨dd, hdd, rd⟩ := rx.getV hxi
      have hdrop : ds.drop i = dd :: ds.drop (i + 1) := by
        rw [List.drop_eq_getElem_cons hi]
        rw [List.getElem?_eq_getElem hi] at hdd
        cases hdd
        rfl
      rw [hdrop] at hgo
      refine comp_turn nD s' (E.mono s1) (rd.mono s') hD hf (by omega) hgo (fun σ' H'' b Q' E' hb hq => qt σ' H'' _ b Q' E' hb hq) (fun σ' H'' y Q' E' hy hq => qe σ' H'' _ y Q' E' hy hq) fun H'' done' rest' s'' hD' hf' hl' hgo' hcat' => ?_
      exact ⟨s'', done', rest', hD', hf', by omega, hgo', by rw [hcat', hcat]⟩
    · rintro H' ⟨s', done, rest, hD, hf, hle, hgo, hcat⟩
      rw [List.drop_eq_nil_of_le (by rw [rx.length]; exact Nat.le_refl _)] at hgo
      cases hgo
      rw [List.append_nil] at hcat
      subst hcat
      exact q _ Dl H' rfl (none_same s1 nD) (s1.trans s') hD
  · cases h9
def tSetN (K : PySem.W.Frag) (j : Nat) (f : Rho → Option D) : TS := fun D σ H => ∃ ρ ys, EnvR K H σ ρ ∧ f ρ = some (.list ys) ∧ ∀ p H', H p = none → Same H H' → H' p = some (.lst (ys.map vOf)) → D.nx (σ.set j (some (.ref p))) H'
theorem ps_setN {M : Sg} {k : Nat} {N : List Str} {sc : Scope} {X : Cx} (ok : Sok M k N sc X) (hkind : sc.kind = .function) {j i : Nat} {src cond elt : C} {x y : Str} {px py pos spos : Pos} {el it c : Expr} {scope : Scope}
    (hy : N[j]? = some y) (hyl : sc.names.lookup y = some .local) (hl : (py.line == pos.line) = true) (ha : (scope.names.any fun (n, k) => n == y && (k == .local || k == .cell)) = false)
    (hn : isNil cond = false) (hc : chk N (.comp true i src cond elt) sc (.e (.ListComp el [⟨.Name x px, it, [c], 0⟩] scope pos)) = true) :
    PS X (.Assign [.Name y py] (.ListComp el [⟨.Name x px, it, [c], 0⟩] scope pos) spos) (tSetN X.K j (ev M (.comp true i src cond elt))) := by
  unfold chk at hc
  split at hc
  · rename_i el2 t2 tp2 it2 ifs2 scope2 pos2 heq
    cases heq
    simp only [Bool.and_eq_true, decide_eq_true_eq] at hc
    obtain ⟨⟨⟨⟨⟨⟨h1, h2⟩, h3⟩, h4⟩, h5⟩, h6⟩, h7⟩ := hc
    obtain rfl := ok.nn
    obtain rfl := ok.esc
    rw [hn] at h7
    have h7' : (tstB cond && chk X.N cond (relS scope X.env.scope) (.e c)) = true := h7
    simp only [Bool.and_eq_true] at h7'
    obtain ⟨ts, ps, qs⟩ := (snd M _ X.N src).e _ X _ ok.toCok h5
    have hfs : ∀ z, foldedSetIterable it X.env z = pure z := fun z => by
      cases it <;> first | rfl | exact nomatch h3
    have p := ps_setLc (X := X) (i := j) (spos := spos) (pos := pos) (py := py) (tg := .Name x px) (own := [(x, i)]) (g := gName i) (tt := tDb X.K fun ρ => (ev M cond ρ).bind asB) (te := tD X.K (ev M elt)) ok.calm ok.nd hy hyl (sw_true hkind hyl hl ha) (pi_list ps) (blkOk_by h2)
      (fun s H Ca cl fp => pg_name (i := i) ok.nd h1 (.inl h4) (.inr h4)) (fun s H Ca cl fp => DTs.pt (X := X.blk s H scope (compEnvC scope cl Ca X.env) fp) (dts_one ((snd M _ X.N cond).t _ _ _ (ok.toCok.blk s H Ca cl fp) h7'.1 h7'.2)))
      (fun s H Ca cl fp => DE.pe (X := X.blk s H scope (compEnvC scope cl Ca X.env) fp) ((snd M _ X.N elt).e _ _ _ (ok.toCok.blk s H Ca cl fp) h6)) hfs
    refine ⟨fun pins s σ H D I ⟨ρ, ys, E, hf, q⟩ => p.run pins s σ H D I ?_⟩
    refine lc_readN (X := X) (fs := ev M src) (fe := ev M elt) (fc := fun ρ => (ev M cond ρ).bind asB) qs (fun σ H ρ b Q E hb hq => ⟨ρ, b, E, hb, hq⟩) (fun σ H ρ d Q E hd hq => ⟨ρ, d, E, hd, hq⟩) σ H ρ (.list ys) _ E ?_ (fun zs p H' e np s' hp => by cases e; exact q p H' np s' hp)
    rw [← hf]
    show _ = (ev M src ρ).bind _
    rw [hn]
    rfl
  · cases hc
def tSetRg (K : PySem.W.Frag) (ta : TA) (j i : Nat) (fc : Rho → Option Bool) (fe : Rho → Option D) : TS := fun D σ H => ∃ ρ lo hi ys, EnvR K H σ ρ ∧ (∀ R : List V → Hp → Prop, (∀ H1, Same H H1 → R [.int lo, .int hi] H1) → ta σ H R) ∧ (0 ≤ lo ∧ lo ≤ 1000 ∧ 0 ≤ hi ∧ hi ≤ 1000) ∧
  compGo (fun d => fc (setE ρ i d)) (fun d => fe (setE ρ i d)) (rgD lo (hi - lo).toNat) = some ys ∧ ∀ p H', H p = none → Same H H' → H' p = some (.lst (ys.map vOf)) → D.nx (σ.set j (some (.ref p))) H'
theorem ps_setRg {M : Sg} {k : Nat} {N : List Str} {sc : Scope} {X : Cx} (ok : Sok M k N sc X) (hkind : sc.kind = .function) {j i : Nat} {cond : C} {x y : Str} {px py pos spos p3 p4 : Pos} {el c lo hi : Expr} {scope : Scope} {ta : TA}
    (hy : N[j]? = some y) (hyl : sc.names.lookup y = some .local) (hl : (py.line == pos.line) = true) (ha : (scope.names.any fun (n, k) => n == y && (k == .local || k == .cell)) = false)
    (hx : N[i]? = some x) (hb : blkC N sc scope [(x, i)] = true) (hxl : (relS scope sc).names.lookup x = some .local) (he : chk N (.var i) (relS scope sc) (.e el) = true) (ht : tstB cond = true) (hc : chk N cond (relS scope sc) (.e c) = true)
    (hg : Gl X "range") (hm : X.mg "range" = none) (pa : PA X [lo, hi] ta) (hs : starEach [lo, hi] X.env = [(false, eval lo X.env), (false, eval hi X.env)]) (hs2 : starEach [hi] X.env = [(false, eval hi X.env)]) :
    PS X (.Assign [.Name y py] (.ListComp el [⟨.Name x px, .Call (.Name "range" p3) [lo, hi] [] p4, [c], 0⟩] scope pos) spos) (tSetRg X.K ta j i (fun ρ => (ev M cond ρ).bind asB) (ev M (.var i))) := by
  obtain rfl := ok.nn
  obtain rfl := ok.esc
  have p := ps_setLc (X := X) (i := j) (spos := spos) (pos := pos) (py := py) (tg := .Name x px) (own := [(x, i)]) (g := gName i) (tt := tDb X.K fun ρ => (ev M cond ρ).bind asB) (te := tD X.K (ev M (.var i))) ok.calm ok.nd hy hyl (sw_true hkind hyl hl ha) (pi_range2 (p := p3) (pos := p4) hg hm pa hs hs2) (blkOk_by hb)
    (fun s H Ca cl fp => pg_name (i := i) ok.nd hx (.inl hxl) (.inr hxl)) (fun s H Ca cl fp => DTs.pt (X := X.blk s H scope (compEnvC scope cl Ca X.env) fp) (dts_one ((snd M _ X.N cond).t _ _ _ (ok.toCok.blk s H Ca cl fp) ht hc)))
    (fun s H Ca cl fp => DE.pe (X := X.blk s H scope (compEnvC scope cl Ca X.env) fp) ((snd M _ X.N (.var i)).e _ _ _ (ok.toCok.blk s H Ca cl fp) he)) (fun z => rfl)
  refine ⟨fun pins s σ H D I ⟨ρ, l, h, ys, E, hta, b1, hf, q⟩ => p.run pins s σ H D I ?_⟩
  exact lc_readR (X := X) (fe := ev M (.var i)) (fc := fun ρ => (ev M cond ρ).bind asB) (fun σ H ρ b Q E hb hq => ⟨ρ, b, E, hb, hq⟩) (fun σ H ρ d Q E hd hq => ⟨ρ, d, E, hd, hq⟩) σ H ρ ys _ E hta b1 hf q
section
variable {P : Program} {w : World} {K : PySem.W.Frag} {mg : Str → Option Value} {base : Heap}
/-! ### rule -/
def nmL : List Str := ["heights", "levels", "once", "plain", "rebuilt", "splayed", "top", "weights", "ranks"]
theorem nm_rule {x : Str} (h : x ∈ nmL) (n : ¬ x = "ranks") : ∃ ru, RuleOk ru ∧ encRule ru = .tuple [.str x] := by
  simp only [nmL, List.mem_cons, List.not_mem_nil, or_false] at h
  rcases h with rfl | rfl | rfl | rfl | rfl | rfl | rfl | rfl | rfl
  · exact ⟨.heights, trivial, rfl⟩
  · exact ⟨.levels, trivial, rfl⟩
  · exact ⟨.once, trivial, rfl⟩
  · exact ⟨.plain, trivial, rfl⟩
  · exact ⟨.rebuilt, trivial, rfl⟩
  · exact ⟨.splayed, trivial, rfl⟩
  · exact ⟨.top, trivial, rfl⟩
  · exact ⟨.weights, trivial, rfl⟩
  · exact absurd rfl n
abbrev nRu : List Str := ["_law_script", "_law_town", "_law_names", "_law_name"]
theorem sRu : FnScope nRu ["_law_script", "_law_town"] (defScope (topS 110)) := scopeB_ok (by decide +kernel)
theorem c_rule_ (T : Tab K mg) (n : Nat) : Cl1 P w K mg base (n + 3) "_law_rule" ["_law_script", "_law_town"] (spRanks K) := by
  obtain ⟨fd, F⟩ := T.def_ 92 (x := "_law_rule") (i := 110) rfl
  refine ⟨fd, bind2 F fun _ _ _ _ _ _ _ _ => rfl, F.kp, T.glo 92 rfl, ?_⟩
  obtain ⟨gd, g1, g2, g3, G⟩ := (c_pick_ (P := P) (w := w) (base := base) T n).ex
  obtain ⟨rd, r1, r2, r3, GR⟩ := (c_ranks_ (P := P) (w := w) (base := base) T n).ex
  refine F.ok sRu (fun vs H Q E h => by obtain ⟨a, t, ns, rfl, _⟩ := h; rfl) (fun cdv A outer s H vs Q E hr h => ?_)
  obtain ⟨a, t, ns, rfl, hs, hl, hne, ht, q⟩ := h
  have ok := hand_sok0 (P := P) (w := w) (base := base) T sRu (outer := outer) (H := H) (E := E) hr
  have gp : Gl (BX P w K mg base nRu "_law_rule" 110 (He.ga K "_law_rule") cdv A outer s H E) "_law_pick" := rfl
  refine ⟨_, (pss_cons (ps_set (i := 2) sRu.nd rfl (Or.inl rfl) (pe_lst (pa_cons pe_str (pa_cons pe_str (pa_cons pe_str (pa_cons pe_str (pa_cons pe_str (pa_cons pe_str (pa_cons pe_str (pa_cons pe_str (pa_cons pe_str pa_nil)))))))))))
    (pss_cons (ps_set (i := 3) sRu.nd rfl (Or.inl rfl) (pe_call (x := "_law_pick") G hr gp g3 g2 g1 .nil pass0 (pa_cons (pv 0) (pa_cons (pv 1) (pa_cons (pv 2) pa_nil)))))
    (pss_one (ps_ret (pe_ifExp (sT ok (.b2 .eq (.var 3) (.cst (.str "ranks"))) rfl (by decide +kernel)) (pe_call (x := "_law_ranks") GR hr rfl r3 r2 r1 .nil pass0 (pa_cons (pv 0) (pa_cons (pv 1) pa_nil))) (pe_tup (pa_cons (pv 3) pa_nil))))))).nox, ?_⟩
  refine ⟨(by show 9 ≤ sizeLine; decide), fun b nb => ?_⟩
  have sH : Same H (upd H b (.lst (nmL.map V.str))) := same_upd nb
  have eb : (upd H b (.lst (nmL.map V.str))) b = some (.lst (nmL.map V.str)) := upd_same
  have bt : b ≠ t := fun z => by obtain ⟨xs, e⟩ := ht.ex; rw [← z, nb] at e; cases e
  have hG : upd H b (.lst [V.str "heights", .str "levels", .str "once", .str "plain", .str "rebuilt", .str "splayed", .str "top", .str "weights", .str "ranks"]) = upd H b (.lst (nmL.map V.str)) := rfl
  rw [hG]
  generalize upd H b (.lst (nmL.map V.str)) = H1 at *
  refine ⟨_, rfl, _, rfl, _, rfl, a, t, b, ns, nmL.map V.str, rfl, scr_fr hs hne (Fr.same sH), hl, hne, ht.same sH, SqL.of eb, bt, by decide, by decide, fun v H2 hv ht2 f2 => ?_⟩
  obtain ⟨x, hx, rfl⟩ := List.mem_map.mp hv
  have f02 := (Fr.same (S := [t]) sH).trans f2 fun b m => .inl m
  refine ⟨_, decide (x = "ranks"), envR_skip (envR_skip (envR_skip (envR_cons (.str x) envR_nil))), by simp [strB], fun H3 s3 => ?_⟩
  have f03 := f02.trans (Fr.same (S := []) s3) fun b m => nomatch m
  by_cases c : x = "ranks"
  · refine (if_pos (decide_eq_true c)).mpr ?_
    exact ⟨_, rfl, _, rfl, a, t, ns, rfl, scr_fr hs hne f03, hl, hne, ht2.same s3, fun ru v H4 h1 h2 h3 h4 => q ru v H4 h1 h2 h3 (f03.trans h4 fun b m => .inl m)⟩
  · refine (if_neg (by rw [decide_eq_false c]; exact Bool.false_ne_true)).mpr ?_
    obtain ⟨ru, h1, h2⟩ := nm_rule hx c
    refine ⟨_, rfl, (by show 1 ≤ sizeLine; decide), fun p np => q ru _ _ h1 (by rw [h2]; exact .tup (.inl (.inl upd_same)) (.cons (.str x) .nil)) ((ht2.same s3).same (same_upd np)) (f03.trans (Fr.same (S := []) (same_upd np)) fun b m => nomatch m)⟩
/-! ### deed -/
def spDeed (K : PySem.W.Frag) : Sp := fun vs H Q _ => ∃ (a t b : Addr) (n : Int) (ns hs : List Int), vs = [.ref a, .ref t, .ref b, .int n] ∧ Scr K H a ns ∧ ns.length ≤ 63 ∧ ANe K a t ns ∧ Town H t ∧ LL K H b (hs.map PyData.int) ∧ b ≠ t ∧ hs.length ≤ 100 ∧ 1 ≤ n ∧ n ≤ 6 ∧ (∀ y ∈ hs, 1 ≤ y ∧ y ≤ n) ∧
  ∀ (w : W) k v H', Rp K H' v (encDeed w k) → 1 ≤ k ∧ k ≤ n → (k ∈ hs ↔ w ≠ .inn) → Town H' t → Fr [t] H H' → Q v H'
abbrev nDe : List Str := ["_law_script", "_law_town", "_law_here", "_law_keys_here", "_law_away", "_law_key"]
theorem sDe : FnScope nDe ["_law_script", "_law_town", "_law_here", "_law_keys_here"] (defScope (topS 111)) := scopeB_ok (by decide +kernel)
def awayL (n : Int) (hs : List Int) : List Int := ((List.range n.toNat).map fun j : Nat => (1 : Int) + j).filter fun y => !decide (y ∈ hs)
theorem away_mem {n : Int} {hs : List Int} {y : Int} (h : y ∈ awayL n hs) : (1 ≤ y ∧ y ≤ n) ∧ ¬ y ∈ hs := by
  unfold awayL at h
  rw [List.mem_filter, List.mem_map] at h
  obtain ⟨⟨j, hj, rfl⟩, h2⟩ := h
  rw [List.mem_range] at hj
  exact ⟨by omega, by simpa using h2⟩
theorem away_len (n : Int) (hs : List Int) : (awayL n hs).length ≤ n.toNat := by
  unfold awayL
  refine Nat.le_trans (List.length_filter_le _ _) ?_
  rw [List.length_map, List.length_range]
  exact Nat.le_refl _
theorem away_pos {n : Int} (h : 1 ≤ n) : 0 < (awayL n []).length := by
  unfold awayL
  rw [List.filter_eq_self.mpr (fun y _ => by simp), List.length_map, List.length_range]
  omega
theorem rgD_ints (n : Int) : rgD 1 (n + 1 - 1).toNat = ((List.range n.toNat).map fun j : Nat => (1 : Int) + j).map PyData.int := by
  unfold rgD
  rw [List.map_map, show (n + 1 - 1).toNat = n.toNat by congr 1; omega]
  rfl
theorem o_nin {x y : D} : op2 .nin x y = (seqOf y).bind fun ds => if flatD x && ds.all flatD then some (.bool (!inD x ds)) else none := rfl
@[simp] theorem o_ninL {x : Int} {ks : List Int} : op2 .nin (.int x) (.list (ks.map PyData.int)) = some (.bool (!decide (x ∈ ks))) := by
  rw [o_nin, seq_l, Option.bind_some, flat_ints, inD_ints]
  rfl
theorem c_deed_ (T : Tab K mg) (n0 : Nat) : Cl1 P w K mg base (n0 + 3) "_law_deed" ["_law_script", "_law_town", "_law_here", "_law_keys_here"] (spDeed K) := by
  obtain ⟨fd, F⟩ := T.def_ 93 (x := "_law_deed") (i := 111) rfl
  refine ⟨fd, bind4 F fun _ _ _ _ _ _ _ _ _ _ => rfl, F.kp, T.glo 93 rfl, ?_⟩
  obtain ⟨gd, g1, g2, g3, G⟩ := (c_pick_ (P := P) (w := w) (base := base) T n0).ex
  obtain ⟨rd, r1, r2, r3, GR⟩ := (c_draw_ (P := P) (w := w) (base := base) T (n0 + 1)).ex
  refine F.ok sDe (fun vs H Q E h => by obtain ⟨a, t, b, n, ns, hs, rfl, _⟩ := h; rfl) (fun cdv A outer s H vs Q E hr h => ?_)
  obtain ⟨a, t, b, n, ns, hs, rfl, hsc, hl, hne, ht, hb, hbt, hz, hn1, hn6, hin, q⟩ := h
  have ok := hand_sok0 (P := P) (w := w) (base := base) T sDe (outer := outer) (H := H) (E := E) hr
  refine ⟨_, (pss_cons (ps_setRg (j := 4) (i := 5) (cond := .b2 .nin (.var 5) (.var 2)) ok rfl rfl rfl rfl (by decide +kernel) rfl (by decide +kernel) rfl (by decide +kernel) rfl (by decide +kernel) rfl (T.blt "range" (by decide +kernel)) (pa_cons pe_int (pa_cons (pe_op op_add (pv 3) pe_int) pa_nil)) rfl rfl)
    (pss_cons (ps_if (PW.pt (pw_or (sT ok (.b2 .eq (.var 2) (.lst .nil)) rfl (by decide +kernel)) (pw_or1 (PW.pt (pw_and (sT ok (.b2 .ne (.var 4) (.lst .nil)) rfl (by decide +kernel))
          (pw_and1 (pt_cmpR (op_eqQ hr.units) (pe_call (x := "_law_draw") GR hr rfl r3 r2 r1 .nil pass0 (pa_cons (pv 0) (pa_cons (pv 1) (pa_cons pe_int pa_nil)))) pe_int (nomark _))))))))
        (pss_one (ps_ret (pe_tup (pa_cons pe_str (pa_cons (pe_call (x := "_law_pick") G hr rfl g3 g2 g1 .nil pass0 (pa_cons (pv 0) (pa_cons (pv 1) (pa_cons (pv 4) pa_nil)))) pa_nil))))) pss_nil)
    (pss_one (ps_ret (pe_tup (pa_cons (pe_call (x := "_law_pick") G hr rfl g3 g2 g1 .nil pass0 (pa_cons (pv 0) (pa_cons (pv 1) (pa_cons (pe_lst (pa_cons pe_str (pa_cons pe_str pa_nil))) pa_nil)))) (pa_cons (pe_call (x := "_law_pick") G hr rfl g3 g2 g1 .nil pass0 (pa_cons (pv 0) (pa_cons (pv 1) (pa_cons (pv 2) pa_nil)))) pa_nil))))))).nox, ?_⟩
  refine ⟨[none, none, some (.list (hs.map PyData.int)), some (.int n), none, none], 1, n + 1, (awayL n hs).map PyData.int, envR_skip (envR_skip (envR_cons hb.rp (envR_cons (.int n) (envR_skip (envR_skip envR_nil))))), fun R hR => ⟨_, rfl, n, 1, rfl, rfl, hR H (Same.refl H)⟩, ⟨by omega, by omega, by omega, by omega⟩, ?_, fun wa H1 nwa s1 ra => ?_⟩
  · rw [rgD_ints]
    exact compGo_ints (fun y => !decide (y ∈ hs)) _ (fun x _ => by simp) (fun x _ => by simp)
  have ra : H1 wa = some (.lst ((awayL n hs).map V.int)) := by rw [ra, List.map_map]; rfl
  have wt : wa ≠ t := fun z => by obtain ⟨xs, e⟩ := ht.ex; rw [← z, nwa] at e; cases e
  have al := away_len n hs
  have E1 : ∀ {G : Hp}, Same H1 G → EnvR K G [some (.ref a), some (.ref t), some (.ref b), some (.int n), some (.ref wa), none] [none, none, some (.list (hs.map PyData.int)), some (.int n), some (.list ((awayL n hs).map PyData.int)), none] := fun s => envR_skip (envR_skip (envR_cons (hb.rp.mono (s1.trans s)) (envR_cons (.int n) (envR_cons (.lst (s _ _ ra) (rpA_ints _)) (envR_skip envR_nil)))))
  -- in
  have goIn : ∀ (D : Ends) (G : Hp), D.rt = Q → Fr [t] H G → Town G t → G wa = some (.lst ((awayL n hs).map V.int)) → 0 < (awayL n hs).length →
      tRet (tTup (tCons (tC (.str "in")) (tCons (tCall (spPick K) [] E0 (tCons (tVar 0) (tCons (tVar 1) (tCons (tVar 4) tNil)))) tNil))) D [some (.ref a), some (.ref t), some (.ref b), some (.int n), some (.ref wa), none] G := by
    intro D G hD f ht1 hw hp
    refine ⟨_, rfl, _, rfl, _, rfl, a, t, wa, ns, _, rfl, scr_fr hsc hne f, hl, hne, ht1, SqL.of hw, wt, by rw [List.length_map]; exact hp, by rw [List.length_map]; omega, fun v G2 hv ht2 f2 => ?_⟩
    obtain ⟨y, hy, rfl⟩ := List.mem_map.mp hv
    obtain ⟨h1, h2⟩ := away_mem hy
    refine ⟨fit2, fun p np => ?_⟩
    rw [hD]
    exact q .inn y _ _ (.tup (.inl (.inl upd_same)) (.cons (.str _) (.cons (.int y) .nil))) h1 ⟨fun m => absurd m h2, fun e => absurd rfl e⟩ (ht2.same (same_upd np)) ((f.trans f2 fun b m => .inl m).trans (Fr.same (S := []) (same_upd np)) fun b m => nomatch m)
  -- ask, out
  have goAsk : ∀ (D : Ends) (G : Hp), D.rt = Q → Fr [t] H G → Town G t → 0 < hs.length →
      tRet (tTup (tCons (tCall (spPick K) [] E0 (tCons (tVar 0) (tCons (tVar 1) (tCons (tLst (tCons (tC (.str "ask")) (tCons (tC (.str "out")) tNil))) tNil)))) (tCons (tCall (spPick K) [] E0 (tCons (tVar 0) (tCons (tVar 1) (tCons (tVar 2) tNil)))) tNil))) D [some (.ref a), some (.ref t), some (.ref b), some (.int n), some (.ref wa), none] G := by
    intro D G hD f ht1 hp
    refine ⟨_, rfl, _, rfl, fit2, fun c nc => ?_⟩
    have sG : Same G (upd G c (.lst [.str "ask", .str "out"])) := same_upd nc
    have ec : (upd G c (.lst [.str "ask", .str "out"])) c = some (.lst [.str "ask", .str "out"]) := upd_same
    have ct : c ≠ t := fun z => by obtain ⟨xs, e⟩ := ht1.ex; rw [← z, nc] at e; cases e
    generalize upd G c (.lst [.str "ask", .str "out"]) = G1 at *
    have f1 := f.trans (Fr.same (S := []) sG) fun b m => nomatch m
    refine ⟨a, t, c, ns, _, rfl, scr_fr hsc hne f1, hl, hne, ht1.same sG, SqL.of ec, ct, by decide, by decide, fun v G2 hv ht2 f2 => ?_⟩
    have f02 := f1.trans f2 fun b m => .inl m
    obtain ⟨w0, rfl, hw⟩ : ∃ w : W, v = .str w.str ∧ w ≠ .inn := by
      simp only [List.mem_cons, List.not_mem_nil, or_false] at hv
      rcases hv with rfl | rfl
      · exact ⟨.ask, rfl, fun e => nomatch e⟩
      · exact ⟨.out, rfl, fun e => nomatch e⟩
    obtain ⟨xs0, e0⟩ := ht.ex
    obtain ⟨ys, hy1, hy2⟩ := (LL.fr e0 f02 hb hbt).ex
    have ey : ys = hs.map V.int := hy2.ints
    refine ⟨_, rfl, _, rfl, _, rfl, a, t, b, ns, ys, rfl, scr_fr hsc hne f02, hl, hne, ht2, SqL.of hy1, hbt, by rw [ey, List.length_map]; exact hp, by rw [ey, List.length_map]; omega, fun v2 G3 hv2 ht3 f3 => ?_⟩
    rw [ey] at hv2
    obtain ⟨y, hy, rfl⟩ := List.mem_map.mp hv2
    refine ⟨fit2, fun p np => ?_⟩
    rw [hD]
    exact q w0 y _ _ (.tup (.inl (.inl upd_same)) (.cons (.str _) (.cons (.int y) .nil))) (hin y hy) ⟨fun _ => hw, fun _ => hy⟩ (ht3.same (same_upd np)) ((f02.trans f3 fun b m => .inl m).trans (Fr.same (S := []) (same_upd np)) fun b m => nomatch m)
  refine ⟨_, hs.isEmpty, E1 (Same.refl _), by simp, fun H2 s2 => ?_⟩
  have f2 := Fr.same (S := [t]) (s1.trans s2)
  have ht2 := ht.same (s1.trans s2)
  cases he : hs.isEmpty with
  | true =>
    have e0 : hs = [] := List.isEmpty_iff.mp he
    refine (if_pos rfl).mpr ((if_pos rfl).mpr ?_)
    refine goIn _ H2 rfl f2 ht2 (s2 _ _ ra) ?_
    rw [e0]
    exact away_pos hn1
  | false =>
    have hp : 0 < hs.length := by
      cases hs with
      | nil => exact nomatch he
      | cons _ _ => exact Nat.succ_pos _
    refine (if_neg Bool.false_ne_true).mpr ?_
    refine ⟨_, !(awayL n hs).isEmpty, E1 s2, by simp, fun H3 s3 => ?_⟩
    have f3 := f2.trans (Fr.same (S := []) s3) fun b m => nomatch m
    have ht3 := ht2.same s3
    cases ha : (awayL n hs).isEmpty with
    | true =>
      refine (if_neg (by simp)).mpr ((if_neg Bool.false_ne_true).mpr ?_)
      exact goAsk _ H3 rfl f3 ht3 hp
    | false =>
      refine (if_pos rfl).mpr ?_
      refine ⟨_, rfl, _, rfl, a, t, 2, ns, rfl, scr_fr hsc hne f3, hl, hne, ht3, by decide, by decide, fun d H4 d0 d1 ht4 f4 => ?_⟩
      have f04 := f3.trans f4 fun b m => .inl m
      refine ⟨.int d, .int 0, .int d, .int 0, rfl, rfl, by simp [eqOk, PyData.depth], _, rfl, ?_⟩
      have hpa : 0 < (awayL n hs).length := by
        cases hq : awayL n hs with
        | nil => rw [hq] at ha; cases ha
        | cons _ _ => exact Nat.succ_pos _
      refine ite2 (fun _ => ?_) (fun _ => ?_)
      · exact goIn _ H4 rfl f04 ht4 (f4 _ _ (s3 _ _ (s2 _ _ ra)) fun m => wt (List.mem_singleton.mp m)) hpa
      · exact goAsk _ H4 rfl f04 ht4 hp
end
end TT
set_option Elab.async false
set_option linter.all false
set_option maxRecDepth 100000
set_option maxHeartbeats 4000000
/-! Drawing rows. -/
namespace TT
open PySem PySem.Spec PyProof.Rows L2
@[simp] theorem g_8 {a b c d e f g h i : Option D} {r : Rho} : getE (a :: b :: c :: d :: e :: f :: g :: h :: i :: r) 8 = i := rfl
@[simp] theorem t_8 {a b c d e f g h i : Option D} {r : Rho} {x : D} : setE (a :: b :: c :: d :: e :: f :: g :: h :: i :: r) 8 x = a :: b :: c :: d :: e :: f :: g :: h :: some x :: r := rfl
theorem noL_deed (w : W) (k : Int) : noL (encDeed w k) = true := rfl
theorem noLs_encs (ds : List Deed) : noLs (encs ds) = true := noLs_iff.mpr fun d h => by
  obtain ⟨c, _, rfl⟩ := List.mem_map.mp h
  rfl
theorem encs_snoc (ds : List Deed) (w : W) (k : Int) : encs (ds ++ [(w, k)]) = encs ds ++ [encDeed w k] := by
  unfold encs
  rw [List.map_append]
  rfl
section
variable {P : Program} {w : World} {K : PySem.W.Frag} {mg : Str → Option Value} {base : Heap}
def spRow (K : PySem.W.Frag) : Sp := fun vs H Q _ => ∃ (a t : Addr) (n : Int) (ns : List Int), vs = [.ref a, .ref t, .int n, .int 40] ∧ Scr K H a ns ∧ ns.length ≤ 63 ∧ ANe K a t ns ∧ Town H t ∧ 1 ≤ n ∧ n ≤ 6 ∧
  ∀ ds rb H', LL K H' rb (encs ds) → ds.length ≤ 40 → Legal [] ds → rb ≠ t → Town H' t → Fr [t] H H' → Q (.ref rb) H'
abbrev nRo : List Str := ["_law_script", "_law_town", "_law_keys_here", "_law_many", "_law_here", "_law_row_here", "_law_k", "_law_deed_here", "_law_key"]
theorem sRo : FnScope nRo ["_law_script", "_law_town", "_law_keys_here", "_law_many"] (defScope (topS 112)) := scopeB_ok (by decide +kernel)
theorem c_row_ (T : Tab K mg) (n0 : Nat) : Cl1 P w K mg base (n0 + 4) "_law_row" ["_law_script", "_law_town", "_law_keys_here", "_law_many"] (spRow K) := by
  obtain ⟨fd, F⟩ := T.def_ 94 (x := "_law_row") (i := 112) rfl
  refine ⟨fd, bind4 F fun _ _ _ _ _ _ _ _ _ _ => rfl, F.kp, T.glo 94 rfl, ?_⟩
  obtain ⟨gd, g1, g2, g3, G⟩ := (c_deed_ (P := P) (w := w) (base := base) T n0).ex
  obtain ⟨rd, r1, r2, r3, GR⟩ := (c_draw_ (P := P) (w := w) (base := base) T (n0 + 2)).ex
  refine F.ok sRo (fun vs H Q E h => by obtain ⟨a, t, n, ns, rfl, _⟩ := h; rfl) (fun cdv A outer s H vs Q E hr h => ?_)
  obtain ⟨a, t, n, ns, rfl, hsc, hl, hne, ht, hn1, hn6, q⟩ := h
  have ok := hand_sok0 (P := P) (w := w) (base := base) T sRo (outer := outer) (H := H) (E := E) hr
  have gr : Gl (BX P w K mg base nRo "_law_row" 112 (He.ga K "_law_row") cdv A outer s H E) "range" := rfl
  have gdr : Gl (BX P w K mg base nRo "_law_row" 112 (He.ga K "_law_row") cdv A outer s H E) "_law_draw" := rfl
  have gde : Gl (BX P w K mg base nRo "_law_row" 112 (He.ga K "_law_row") cdv A outer s H E) "_law_deed" := rfl
  refine ⟨_, (pss_cons (ps_par (i := 4) (j := 5) rfl sRo.nd rfl rfl (by decide) rfl rfl (pa_cons (pe_lst pa_nil) (pa_cons (pe_lst pa_nil) pa_nil)) (by rfl))
    (pss_cons (ps_for PassesOwn.never rfl (pi_range1 gr (T.blt "range" (by decide +kernel)) (pa_cons (pe_call (x := "_law_draw") GR hr gdr r3 r2 r1 .nil pass0 (pa_cons (pv 0) (pa_cons (pv 1) (pa_cons (pe_op op_add (pv 3) pe_int) pa_nil)))) pa_nil)) (pg_name (i := 6) sRo.nd rfl (Or.inl rfl))
      (pss_cons (ps_set (i := 7) sRo.nd rfl (Or.inr rfl) (pe_call (x := "_law_deed") G hr gde g3 g2 g1 .nil pass0 (pa_cons (pv 0) (pa_cons (pv 1) (pa_cons (pv 4) (pa_cons (pv 2) pa_nil))))))
        (pss_cons (ps_expr (pe_bm PySem.F.plainAttrs_list PySem.F.slot_list_append PySem.F.type_list_append mt_append (pv 5) (pa_cons (pv 7) pa_nil)))
          (pss_cons (ps_if (sT ok (.b2 .eq (.b2 .ix (.var 7) (.cst (.int 0))) (.cst (.str "in"))) rfl (by decide +kernel))
              (pss_one (ps_set (i := 4) sRo.nd rfl (Or.inl rfl) (pe_callB (x := "sorted") cr_sortSeq rfl (T.blt "sorted" (by decide +kernel)) boot_sortedB (pa_cons (pe_op op_cat (pv 4) (pe_lst (pa_cons (sE ok (.b2 .ix (.var 7) (.cst (.int 1))) (by decide +kernel)) pa_nil))) pa_nil)))) pss_nil)
            (pss_one (ps_if (sT ok (.b2 .eq (.b2 .ix (.var 7) (.cst (.int 0))) (.cst (.str "out"))) rfl (by decide +kernel))
              (pss_one (ps_setN (j := 4) (i := 8) (src := .var 4) (cond := .b2 .ne (.var 8) (.b2 .ix (.var 7) (.cst (.int 1)))) (elt := .var 8) ok rfl rfl rfl rfl (by decide +kernel) rfl (by decide +kernel))) pss_nil))))))
    (pss_one (ps_ret (pv 5))))).nox, ?_⟩
  refine ⟨Nat.zero_le _, fun p1 np1 => ⟨Nat.zero_le _, fun p2 np2 => ⟨_, _, rfl, ?_⟩⟩⟩
  have a1 : Same H (upd H p1 (.lst [])) := same_upd np1
  have a2 : Same (upd H p1 (.lst [])) (upd (upd H p1 (.lst [])) p2 (.lst [])) := same_upd np2
  have e1 : (upd (upd H p1 (.lst [])) p2 (.lst [])) p1 = some (.lst []) := a2 _ _ upd_same
  have e2 : (upd (upd H p1 (.lst [])) p2 (.lst [])) p2 = some (.lst []) := upd_same
  have sH := a1.trans a2
  have m2 : H p2 = none := none_same a1 np2
  have h12 : p1 ≠ p2 := fun z => by subst z; rw [upd_same] at np2; cases np2
  have h1t : p1 ≠ t := fun z => by obtain ⟨xs, e⟩ := ht.ex; rw [← z, np1] at e; cases e
  have h2t : p2 ≠ t := fun z => by obtain ⟨xs, e⟩ := ht.ex; rw [← z, m2] at e; cases e
  generalize (upd (upd H p1 (.lst [])) p2 (.lst [])) = G0 at *
  clear a1 a2
  refine ⟨_, rfl, _, rfl, _, rfl, 40, 1, rfl, rfl, a, t, 41, ns, rfl, scr_fr hsc hne (Fr.same sH), hl, hne, ht.same sH, by decide, by decide, fun d H1 d0 d1 ht1 f1 => ?_⟩
  have f01 := (Fr.same (S := [t]) sH).trans f1 fun b m => .inl m
  refine ⟨d, rfl, by omega, by omega, ?_⟩
  refine for_range (lo := 0) (n := d.toNat) (fun i σ H' => ∃ (hb : Addr) (x6 x7 x8 : Option V) (ds : List Deed) (hs : List Int), σ = [some (.ref a), some (.ref t), some (.int n), some (.int 40), some (.ref hb), some (.ref p2), x6, x7, x8] ∧ Town H' t ∧ Fr [t] H H' ∧ LL K H' p2 (encs ds) ∧ LL K H' hb (hs.map PyData.int) ∧ hb ≠ t ∧ hb ≠ p2 ∧
    Legal [] ds ∧ (∀ y, y ∈ hs ↔ y ∈ nxts [] ds) ∧ (∀ y ∈ hs, 1 ≤ y ∧ y ≤ n) ∧ ds.length = i ∧ hs.length ≤ i) ?_ ?_ ?_
  · have e1' := f1 _ _ e1 fun m => h1t (List.mem_singleton.mp m)
    have e2' := f1 _ _ e2 fun m => h2t (List.mem_singleton.mp m)
    exact ⟨p1, none, none, none, [], [], rfl, ht1, f01, ⟨⟨[], e2', .nil⟩, rfl⟩, ⟨⟨[], e1', .nil⟩, rfl⟩, h1t, h12, trivial, fun y => Iff.rfl, (fun y m => nomatch m), rfl, Nat.le_refl _⟩
  · rintro i σ H' hi ⟨hb, x6, x7, x8, ds, hs, rfl, htn, f, lr, lh, hbt, hb2, lg, hm, hin, hlen, hhl⟩
    have hi40 : i < 40 := by omega
    refine ⟨_, rfl, _, rfl, _, rfl, _, rfl, a, t, hb, n, ns, hs, rfl, scr_fr hsc hne f, hl, hne, htn, lh, hbt, by omega, hn1, hn6, hin, fun wd k v7 H2 rv hk hp htn2 f2 => ?_⟩
    obtain ⟨xs0, e0⟩ := htn.ex
    have lr2 := LL.fr e0 f2 lr h2t
    have lh2 := LL.fr e0 f2 lh hbt
    obtain ⟨ys, hy, ry⟩ := lr2.ex
    refine ⟨_, rfl, .inl ⟨rfl, _, SqL.of hy⟩, _, rfl, p2, ys, v7, rfl, rfl, hy, by
      have h1 := ry.length
      rw [h1]
      unfold encs
      rw [List.length_map]
      exact small1000 (by omega), ?_⟩
    have lr3 := LL.push hy ry lr2.nl rv (noL_deed wd k)
    rw [← encs_snoc] at lr3
    have lh3 : LL K (upd H2 p2 (.lst (ys ++ [v7]))) hb (hs.map PyData.int) := lh2.put hy hb2
    have rv3 : Rp K (upd H2 p2 (.lst (ys ++ [v7]))) v7 (encDeed wd k) := rv.updL hy (noL_deed wd k)
    have htn3 : Town (upd H2 p2 (.lst (ys ++ [v7]))) t := by
      obtain ⟨x, y, e, h0⟩ := htn2
      exact ⟨x, y, (upd_ne fun z => h2t z.symm).trans e, h0⟩
    have f3 : Fr [t] H (upd H2 p2 (.lst (ys ++ [v7]))) := (f.trans f2 fun b m => .inl m).trans (Fr.put (S := [p2]) (List.mem_singleton.mpr rfl)) fun b m => .inr (by rw [List.mem_singleton.mp m]; exact m2)
    generalize upd H2 p2 (.lst (ys ++ [v7])) = H3 at *
    have lg3 : Legal [] (ds ++ [(wd, k)]) := legal_snoc (wd, k) ds [] lg ⟨hk.1, by have := hk.2; show k ≤ 6; omega⟩ (by rw [← hm]; exact hp)
    have nx3 : nxts [] (ds ++ [(wd, k)]) = nxt (nxts [] ds) wd k := nxts_snoc (wd, k) ds []
    have len3 : (ds ++ [(wd, k)]).length = i + 1 := by rw [List.length_append, hlen]; rfl
    have E3 : ∀ {G : Hp} {hb' : Addr} {hs' : List Int}, Same H3 G → LL K G hb' (hs'.map PyData.int) → EnvR K G [some (.ref a), some (.ref t), some (.int n), some (.int 40), some (.ref hb'), some (.ref p2), some (.int (0 + i)), some v7, x8] [none, none, none, none, some (.list (hs'.map PyData.int)), none, none, some (encDeed wd k), none] :=
      fun s l => envR_skip (envR_skip (envR_skip (envR_skip (envR_cons l.rp (envR_skip (envR_skip (envR_cons (rv3.mono s) (envR_skip envR_nil))))))))
    -- the end of a turn
    have fin : ∀ (G : Hp) (hb' : Addr) (hs' : List Int), Same H3 G → LL K G hb' (hs'.map PyData.int) → hb' ≠ t → hb' ≠ p2 → (∀ y, y ∈ hs' ↔ y ∈ nxt (nxts [] ds) wd k) → (∀ y ∈ hs', 1 ≤ y ∧ y ≤ n) → hs'.length ≤ i + 1 →
        ∃ (hb : Addr) (x6 x7 x8' : Option V) (ds : List Deed) (hs : List Int), [some (V.ref a), some (.ref t), some (.int n), some (.int 40), some (.ref hb'), some (.ref p2), some (.int (0 + i)), some v7, x8] = [some (V.ref a), some (.ref t), some (.int n), some (.int 40), some (.ref hb), some (.ref p2), x6, x7, x8'] ∧ Town G t ∧ Fr [t] H G ∧ LL K G p2 (encs ds) ∧ LL K G hb (hs.map PyData.int) ∧ hb ≠ t ∧ hb ≠ p2 ∧
          Legal [] ds ∧ (∀ y, y ∈ hs ↔ y ∈ nxts [] ds) ∧ (∀ y ∈ hs, 1 ≤ y ∧ y ≤ n) ∧ ds.length = i + 1 ∧ hs.length ≤ i + 1 := by
      intro G hb' hs' s l h1 h2 h3 h4 h5
      exact ⟨hb', _, _, _, ds ++ [(wd, k)], hs', rfl, htn3.same s, f3.trans (Fr.same (S := []) s) (fun b m => nomatch m), lr3.mono s, l, h1, h2, lg3, by rw [nx3]; exact h3, h4, len3, h5⟩
    refine ⟨_, decide (wd.tag = 1), E3 (Same.refl _) lh3, by simp [encDeed], fun H4 s4 => ?_⟩
    cases wd with
    | inn =>
      refine (if_pos rfl).mpr ?_
      obtain ⟨zs, hz, rz⟩ := (lh3.mono s4).ex
      have ez : zs = hs.map V.int := rz.ints
      refine ⟨_, rfl, _, .int k, E3 s4 (lh3.mono s4), by simp [encDeed], fun vk H5 s5 rk => ?_⟩
      cases rk.intI
      refine ⟨(by show 1 ≤ sizeLine; decide), fun c nc => ?_⟩
      have sc : Same H5 (upd H5 c (.lst [.int k])) := same_upd nc
      have hlen2 : zs.length ≤ i := by rw [ez, List.length_map]; exact hhl
      refine ⟨hb, c, _, _, rfl, rfl, sc _ _ (s5 _ _ hz), upd_same, le1000 (by show zs.length + 1 ≤ 1000; omega), fun c2 nc2 => ?_⟩
      have sc2 : Same (upd H5 c (.lst [.int k])) (upd (upd H5 c (.lst [.int k])) c2 (.lst (zs ++ [.int k]))) := same_upd nc2
      refine ⟨c2, hs ++ [k], rfl, .inl (SqL.of (by rw [upd_same, ez, List.map_append]; rfl)), by rw [List.length_append, List.length_singleton]; omega, fun c3 nc3 => ?_⟩
      have sc3 : Same (upd (upd H5 c (.lst [.int k])) c2 (.lst (zs ++ [.int k]))) (upd (upd (upd H5 c (.lst [.int k])) c2 (.lst (zs ++ [.int k]))) c3 (.lst ((isort (hs ++ [k])).map V.int))) := same_upd nc3
      have s3z := s4.trans (s5.trans (sc.trans (sc2.trans sc3)))
      have ln : LL K (upd (upd (upd H5 c (.lst [.int k])) c2 (.lst (zs ++ [.int k]))) c3 (.lst ((isort (hs ++ [k])).map V.int))) c3 ((isort (hs ++ [k])).map PyData.int) := ⟨⟨_, upd_same, rpA_ints _⟩, noLs_ints _⟩
      have n3 := none_same (s4.trans (s5.trans (sc.trans sc2))) nc3
      have c3t : c3 ≠ t := fun z => by obtain ⟨xs, e⟩ := htn3.ex; rw [← z, n3] at e; cases e
      have c32 : c3 ≠ p2 := fun z => by obtain ⟨xs, e, _⟩ := lr3.ex; rw [← z, n3] at e; cases e
      generalize (upd (upd (upd H5 c (.lst [.int k])) c2 (.lst (zs ++ [.int k]))) c3 (.lst ((isort (hs ++ [k])).map V.int))) = H6 at *
      refine ⟨_, false, E3 s3z ln, by simp [encDeed, W.tag], fun H7 s7 => ?_⟩
      refine (if_neg Bool.false_ne_true).mpr ?_
      have pm := isort_perm (hs ++ [k])
      refine fin H7 c3 (isort (hs ++ [k])) (s3z.trans s7) (ln.mono s7) c3t c32 (fun y => ?_) (fun y hy => ?_) ?_
      · rw [pm.mem_iff, nxt_inn, List.mem_append, List.mem_append, hm]
      · rcases List.mem_append.mp (pm.mem_iff.mp hy) with z | z
        · exact hin y z
        · rw [List.mem_singleton.mp z]; exact hk
      · rw [pm.length_eq, List.length_append, List.length_singleton]
        omega
    | out =>
      refine (if_neg (by decide)).mpr ?_
      refine ⟨_, true, E3 s4 (lh3.mono s4), by simp [encDeed, W.tag], fun H5 s5 => ?_⟩
      refine (if_pos rfl).mpr ?_
      have s35 := s4.trans s5
      refine ⟨_, (hs.filter fun y => decide (y ≠ k)).map PyData.int, E3 s35 (lh3.mono s35), ?_, fun p H6 np s6 hp6 => ?_⟩
      · exact e_filter (fun y => decide (y ≠ k)) (by simp) rfl rfl (by omega) (fun x _ => by simp [encDeed])
      have n3 := none_same s35 np
      have pt : p ≠ t := fun z => by obtain ⟨xs, e⟩ := htn3.ex; rw [← z, n3] at e; cases e
      have p22 : p ≠ p2 := fun z => by obtain ⟨xs, e, _⟩ := lr3.ex; rw [← z, n3] at e; cases e
      rw [List.map_map] at hp6
      have fl := List.length_filter_le (fun y => decide (y ≠ k)) hs
      refine fin H6 p (hs.filter fun y => decide (y ≠ k)) (s35.trans s6) ⟨⟨_, hp6, rpA_ints _⟩, noLs_ints _⟩ pt p22 (fun y => ?_) (fun y hy => hin y (List.mem_filter.mp hy).1) (by omega)
      rw [nxt_out, List.mem_filter, List.mem_filter, hm]
    | ask =>
      refine (if_neg (by decide)).mpr ?_
      refine ⟨_, false, E3 s4 (lh3.mono s4), by simp [encDeed, W.tag], fun H5 s5 => ?_⟩
      refine (if_neg Bool.false_ne_true).mpr ?_
      exact fin H5 hb hs (s4.trans s5) (lh3.mono (s4.trans s5)) hbt hb2 (fun y => by rw [nxt_ask]; exact hm y) hin (by omega)
  · rintro σ H' ⟨hb, x6, x7, x8, ds, hs, rfl, htn, f, lr, lh, hbt, hb2, lg, hm, hin, hlen, hhl⟩
    exact ⟨_, rfl, q ds p2 H' lr (by omega) lg h2t htn f⟩
end
end TT
set_option Elab.async false
set_option linter.all false
set_option maxRecDepth 100000
set_option maxHeartbeats 4000000
/-! The law. -/
namespace TT
open PySem PySem.Spec PyProof.Rows L2
theorem depth_enc : ∀ t : T, (enc t).depth ≤ t.ht + 1
  | .nil => by simp [PyData.depth, PyData.depthAll]
  | .node l k r => by
    have h1 := depth_enc l
    have h2 := depth_enc r
    simp only [enc_node, PyData.depth, PyData.depthAll, T.ht]
    omega
theorem depth_all {ds : List D} {n : Nat} (h : ∀ d ∈ ds, d.depth ≤ n) : PyData.depthAll ds ≤ n := by
  induction ds with
  | nil => simp [PyData.depthAll]
  | cons d r ih =>
    simp only [PyData.depthAll]
    have h1 := h d List.mem_cons_self
    have h2 := ih fun x hx => h x (List.mem_cons_of_mem _ hx)
    omega
theorem plain_of_all {ds : List D} (h : ∀ d ∈ ds, d.plain = true) : PyData.plainAll ds = true := by
  induction ds with
  | nil => rfl
  | cons d r ih =>
    show (PyData.plain d && PyData.plainAll r) = true
    rw [h d List.mem_cons_self, ih fun x hx => h x (List.mem_cons_of_mem _ hx)]
    rfl
theorem plain_enc : ∀ t : T, (enc t).plain = true
  | .nil => rfl
  | .node l k r => by
    show (PyData.plain (enc l) && (PyData.plain (.int k) && (PyData.plain (enc r) && true))) = true
    rw [plain_enc l, plain_enc r]
    rfl
theorem ne_self {ds : List D} (h1 : ∀ d ∈ ds, d.depth ≤ 20) (h2 : ∀ d ∈ ds, d.plain = true) : op2 .ne (.list ds) (.list ds) = some (.bool false) := by
  have e : eqOk (.list ds) (.list ds) = true := by
    have h := depth_all h1
    unfold eqOk
    rw [decide_eq_true (show PyData.depth (.list ds) ≤ 64 by simp only [PyData.depth]; omega)]
    rfl
  have r : PyData.eqv (.list ds) (.list ds) = true := SeqAt.eqv_refl_plain _ (plain_of_all h2)
  have : op2 .ne (.list ds) (.list ds) = if eqOk (.list ds) (.list ds) then some (.bool (!PyData.eqv (.list ds) (.list ds))) else none := rfl
  rw [this, if_pos e, r]
  rfl
theorem shps_good (ru : Rule) (hr : RuleOk ru) : ∀ (ds : List Deed) (t : T), Good t → Legal t.keys ds → ∀ u ∈ shps ru ds t, Good u
  | [], _, _, _, _, h => nomatch h
  | d :: r, t, g, lg, u, h => by
    obtain ⟨g2, k2⟩ := good_next hr g lg.1 lg.2.1
    rcases List.mem_cons.mp h with e | h
    · rw [e]; exact g2
    · exact shps_good ru hr r _ g2 (legal_congr r _ _ (fun y => (k2 y).symm) lg.2.2) u h
theorem nil_good : Good .nil := ⟨trivial, fun _ h => absurd h not_mem_nil⟩
section
variable {P : Program} {w : World} {K : PySem.W.Frag} {mg : Str → Option Value} {base : Heap}
def spLaw (K : PySem.W.Frag) : Sp := fun vs H Q _ => ∃ (a : Addr) (ns : List Int), vs = [.ref a] ∧ SqL K H a (ns.map V.int) ∧ ns.length ≤ 63 ∧ ∀ H', Q (.bl true) H'
abbrev nLa : List Str := ["_law_script", "_law_town", "_law_k", "_law_rule_here", "_law_row_here", "_law_shape", "_law_shapes", "_law_costs", "_law_deed_here"]
theorem sLa : FnScope nLa ["_law_script"] (defScope (topS 113)) := scopeB_ok (by decide +kernel)
theorem ane_of {K : PySem.W.Frag} {H : Hp} {a t : Addr} {ns : List Int} (h : SqL K H a (ns.map V.int)) (n : H t = none) : ANe K a t ns := by
  rcases h with (h | ⟨o, h⟩) | h
  · exact .inl fun z => by rw [z, n] at h; cases h
  · exact .inl fun z => by rw [z, n] at h; cases h
  · exact .inr h
theorem ok_law (T : Tab K mg) {fd : FuncData} (F : FDef K "law" 113 fd) : FnOk P w K mg base CX0 51 (He.ga K "law") fd ["_law_script"] (spLaw K) := by
  refine F.ok sLa (fun vs H Q E h => by obtain ⟨a, ns, rfl, _⟩ := h; rfl) (fun cdv A outer s H vs Q E hr h => ?_)
  obtain ⟨a, ns, rfl, hsc, hl, q⟩ := h
  have ok := hand_sok (P := P) (w := w) (base := base) T (fun f => all_fn T 50 f) (Nat.le_refl 50) sLa (outer := outer) (H := H) (E := E) hr
  obtain ⟨ud, u1, u2, u3, GU⟩ := ((c_rule_ (P := P) (w := w) (base := base) T 0).mono (n := 50) (by decide)).ex
  obtain ⟨wd, w1, w2, w3, GW⟩ := ((c_row_ (P := P) (w := w) (base := base) T 0).mono (n := 50) (by decide)).ex
  obtain ⟨rd, r1, r2, r3, GR⟩ := ((c_draw_ (P := P) (w := w) (base := base) T 0).mono (n := 50) (by decide)).ex
  have gr : Gl (BX P w K mg base nLa "law" 113 (He.ga K "law") cdv A outer s H E) "range" := rfl
  have gdr : Gl (BX P w K mg base nLa "law" 113 (He.ga K "law") cdv A outer s H E) "_law_draw" := rfl
  have gru : Gl (BX P w K mg base nLa "law" 113 (He.ga K "law") cdv A outer s H E) "_law_rule" := rfl
  have gro : Gl (BX P w K mg base nLa "law" 113 (He.ga K "law") cdv A outer s H E) "_law_row" := rfl
  refine ⟨_, (pss_cons (ps_set (i := 1) sLa.nd rfl (Or.inl rfl) (pe_lst (pa_cons pe_int (pa_cons pe_int pa_nil))))
    (pss_cons (ps_for PassesOwn.never rfl (pi_range1 gr (T.blt "range" (by decide +kernel)) (pa_cons pe_int pa_nil)) (pg_name (i := 2) sLa.nd rfl (Or.inl rfl))
      (pss_cons (ps_par (i := 3) (j := 4) rfl sLa.nd rfl rfl (by decide) rfl rfl (pa_cons (pe_call (x := "_law_rule") GU hr gru u3 u2 u1 .nil pass0 (pa_cons (pv 0) (pa_cons (pv 1) pa_nil)))
          (pa_cons (pe_call (x := "_law_row") GW hr gro w3 w2 w1 .nil pass0 (pa_cons (pv 0) (pa_cons (pv 1) (pa_cons (pe_op op_add pe_int (pe_call (x := "_law_draw") GR hr gdr r3 r2 r1 .nil pass0 (pa_cons (pv 0) (pa_cons (pv 1) (pa_cons pe_int pa_nil))))) (pa_cons pe_int pa_nil))))) pa_nil)) (by rfl))
      (pss_cons (ps_if (pt_cmpR op_notBl (sE ok (.call .is_row (.cons (.var 4) .nil)) (by decide +kernel)) pe_bl (nomark _)) (pss_one (ps_ret pe_bl)) pss_nil)
      (pss_cons (ps_par3 (i := 5) (j := 6) (l := 7) rfl sLa.nd rfl rfl rfl (by decide) (by decide) (by decide) rfl rfl rfl (pa_cons (pe_tup pa_nil) (pa_cons (pe_lst pa_nil) (pa_cons (pe_lst pa_nil) pa_nil))) (by rfl))
      (pss_cons (ps_for PassesOwn.never rfl (pi_list (pv 4)) (pg_name (i := 8) sLa.nd rfl (Or.inl rfl))
        (pss_cons (ps_expr (pe_bm PySem.F.plainAttrs_list PySem.F.slot_list_append PySem.F.type_list_append mt_append (pv 7) (pa_cons (sE ok (.call ._law_price (.cons (.var 5) (.cons (.var 8) .nil))) (by decide +kernel)) pa_nil)))
        (pss_cons (ps_if (sT ok (.b2 .ne (.call .cost (.cons (.var 5) (.cons (.var 8) .nil))) (.b2 .ix (.var 7) (.neg (.cst (.int 1))))) rfl (by decide +kernel)) (pss_one (ps_ret pe_bl)) pss_nil)
        (pss_cons (ps_set (i := 5) sLa.nd rfl (Or.inl rfl) (sE ok (.call ._law_after (.cons (.var 3) (.cons (.var 5) (.cons (.var 8) .nil)))) (by decide +kernel)))
        (pss_one (ps_expr (pe_bm PySem.F.plainAttrs_list PySem.F.slot_list_append PySem.F.type_list_append mt_append (pv 6) (pa_cons (pv 5) pa_nil))))))))
      (pss_one (ps_if (sT ok (.or (.b2 .ne (.call .shapes_along (.cons (.var 3) (.cons (.var 4) .nil))) (.var 6)) (.b2 .ne (.call .costs_along (.cons (.var 3) (.cons (.var 4) .nil))) (.var 7))) rfl (by decide +kernel)) (pss_one (ps_ret pe_bl)) pss_nil)))))))
    (pss_one (ps_ret pe_bl)))).nox, ?_⟩
  refine ⟨fit2, fun t nt => ?_⟩
  have sT0 : Same H (upd H t (.lst [.int 0, .int 0])) := same_upd nt
  have hne := ane_of hsc nt
  have ht0 : Town (upd H t (.lst [.int 0, .int 0])) t := ⟨0, 0, upd_same, Int.le_refl 0⟩
  have hs0 : Scr K (upd H t (.lst [.int 0, .int 0])) a ns := scr_fr (t := t) hsc hne (Fr.same sT0)
  generalize upd H t (.lst [.int 0, .int 0]) = H0 at *
  refine ⟨2, rfl, by decide, by decide, ?_⟩
  refine for_range (lo := 0) (n := (2 : Int).toNat) (fun i σ H' => ∃ (x2 x3 x4 x5 x6 x7 x8 : Option V), σ = [some (.ref a), some (.ref t), x2, x3, x4, x5, x6, x7, x8] ∧ Town H' t ∧ Scr K H' a ns) ⟨none, none, none, none, none, none, none, rfl, ht0, hs0⟩ ?_ ?_
  · rintro i σ G0 hi ⟨x2, x3, x4, x5, x6, x7, x8, rfl, ht, hs⟩
    refine ⟨_, rfl, _, rfl, a, t, ns, rfl, hs, hl, hne, ht, fun ru vr G1 hru rr ht1 f1 => ?_⟩
    have hs1 := scr_fr hs hne f1
    refine ⟨_, rfl, _, rfl, _, rfl, _, rfl, a, t, 6, ns, rfl, hs1, hl, hne, ht1, by decide, by decide, fun dn G2 d0 d1 ht2 f2 => ?_⟩
    have hs2 := scr_fr hs1 hne f2
    refine ⟨1, dn, rfl, rfl, a, t, 1 + dn, ns, rfl, hs2, hl, hne, ht2, by omega, by omega, fun ds rb G3 lr hz lg hrt ht3 f3 => ?_⟩
    have hs3 := scr_fr hs2 hne f3
    obtain ⟨xs1, et1⟩ := ht1.ex
    have nru : noL (encRule ru) = true := by cases ru <;> first | rfl | (rename_i o; show (noL (.str (Rule.name (.ranks o))) && (noLs (o.map PyData.int) && true)) = true; rw [noLs_ints o]; rfl)
    have rr3 : Rp K G3 vr (encRule ru) := rr.fr et1 (f2.trans f3 fun b m => .inl m) nru
    refine ⟨_, _, rfl, ?_⟩
    -- the row is a row
    have E3 : EnvR K G3 [some (.ref a), some (.ref t), some (.int (0 + i)), some vr, some (.ref rb), x5, x6, x7, x8] [none, none, none, some (encRule ru), some (.list (encs ds)), none, none, none, none] := envR_skip (envR_skip (envR_skip (envR_cons rr3 (envR_cons lr.rp (envR_skip (envR_skip (envR_skip (envR_skip envR_nil))))))))
    refine ⟨_, .bool true, E3, by simp [v_is_row ds hz lg (n := 50) (by decide)], fun vb G4 s4 rb4 => ?_⟩
    cases rb4.blI
    refine ⟨true, true, rfl, rfl, _, rfl, ?_⟩
    refine (if_neg (by decide)).mpr ?_
    have rr4 := rr3.mono s4
    have lr4 := lr.mono s4
    have ht4 := ht3.same s4
    have hs4 : Scr K G4 a ns := scr_fr (t := t) hs3 hne (Fr.same s4)
    refine ⟨Nat.zero_le _, fun p0 np0 => ⟨Nat.zero_le _, fun p1 np1 => ⟨Nat.zero_le _, fun p2 np2 => ⟨_, _, _, rfl, ?_⟩⟩⟩⟩
    have a1 : Same G4 (upd G4 p0 (.tup [])) := same_upd np0
    have a2 : Same (upd G4 p0 (.tup [])) (upd (upd G4 p0 (.tup [])) p1 (.lst [])) := same_upd np1
    have a3 : Same (upd (upd G4 p0 (.tup [])) p1 (.lst [])) (upd (upd (upd G4 p0 (.tup [])) p1 (.lst [])) p2 (.lst [])) := same_upd np2
    have e0 : (upd (upd (upd G4 p0 (.tup [])) p1 (.lst [])) p2 (.lst [])) p0 = some (.tup []) := a3 _ _ (a2 _ _ upd_same)
    have e1 : (upd (upd (upd G4 p0 (.tup [])) p1 (.lst [])) p2 (.lst [])) p1 = some (.lst []) := a3 _ _ upd_same
    have e2 : (upd (upd (upd G4 p0 (.tup [])) p1 (.lst [])) p2 (.lst [])) p2 = some (.lst []) := upd_same
    have sG := a1.trans (a2.trans a3)
    have m1 : G4 p1 = none := none_same a1 np1
    have m2 : G4 p2 = none := none_same (a1.trans a2) np2
    have ne : p1 ≠ p2 := fun z => by subst z; rw [upd_same] at np2; cases np2
    generalize (upd (upd (upd G4 p0 (.tup [])) p1 (.lst [])) p2 (.lst [])) = G5 at *
    clear a1 a2 a3 np1 np2
    obtain ⟨rs, hrs, rrs⟩ := lr4.ex
    have hrl : rs.length = ds.length := by rw [rrs.length]; unfold encs; rw [List.length_map]
    refine ⟨_, rfl, rb, rfl, ⟨rs, SqL.of (sG _ _ hrs)⟩, ?_⟩
    refine for_list (K := K) (a := rb) (xs := rs) (fun j σ H' => ∃ (sv : V) (x8' : Option V) (u : TT.T) (sh : List TT.T) (cs : List Int), σ = [some (.ref a), some (.ref t), some (.int (0 + i)), some vr, some (.ref rb), some sv, some (.ref p1), some (.ref p2), x8'] ∧ Same G4 H' ∧ Rp K H' sv (enc u) ∧ LL K H' p1 (sh.map enc) ∧ LL K H' p2 (cs.map PyData.int) ∧
      sh.length ≤ j ∧ cs.length ≤ j ∧ Good u ∧ Legal u.keys (ds.drop j) ∧ shps ru ds .nil = sh ++ shps ru (ds.drop j) u ∧ csts ru ds .nil = cs ++ csts ru (ds.drop j) u) ?_ ?_ ?_ ?_
    · exact ⟨.ref p0, x8, .nil, [], [], rfl, sG, .tup (.inl (.inl e0)) .nil, ⟨⟨[], e1, .nil⟩, rfl⟩, ⟨⟨[], e2, .nil⟩, rfl⟩, Nat.le_refl _, Nat.le_refl _, nil_good, lg, rfl, rfl⟩
    · rintro j σ H' _ ⟨_, _, _, _, _, _, s', _⟩
      exact SqL.of (s' _ _ hrs)
    · rintro j x σ H' hxj ⟨sv, x8', u, sh, cs, rfl, s', rsv, l1, l2, z1, z2, gu, lgu, es, ec⟩
      have hj : j < ds.length := by
        rw [← hrl]
        exact (List.getElem?_eq_some_iff.mp hxj).1
      obtain ⟨dd, hdd, rd⟩ := rrs.getV hxj
      unfold encs at hdd
      rw [List.getElem?_map, List.getElem?_eq_getElem hj] at hdd
      have hdrop := List.drop_eq_getElem_cons hj
      generalize ds[j] = dk at *
      obtain ⟨wk, k⟩ := dk
      cases hdd
      rw [hdrop] at lgu es ec
      have z6 := size6 gu.1 gu.2
      have ps : Poss u wk k := poss_of lgu.2.1
      obtain ⟨g2, k2⟩ := good_next hru gu lgu.1 lgu.2.1
      have rd' := rd.mono s'
      have rr' := rr4.mono s'
      have E1 : EnvR K H' [some (.ref a), some (.ref t), some (.int (0 + i)), some vr, some (.ref rb), some sv, some (.ref p1), some (.ref p2), some x] [none, none, none, none, none, some (enc u), none, none, some (encDeed wk k)] :=
        envR_skip (envR_skip (envR_skip (envR_skip (envR_skip (envR_cons rsv (envR_skip (envR_skip (envR_cons rd' envR_nil))))))))
      obtain ⟨ys, f2, ry⟩ := l2.ex
      refine ⟨_, rfl, .inl ⟨rfl, _, SqL.of f2⟩, _, .int (costT u wk k), E1, by simp [l_price u wk k (n := 50) (by omega) (by omega) gu.1 ps], fun v G6 s6 rv => ?_⟩
      have f2' := s6 _ _ f2
      refine ⟨p2, ys, v, rfl, rfl, f2', by have := small1000 (n := ys.length) (by rw [ry.length, List.length_map]; omega); exact this, ?_⟩
      have l2' := LL.push f2' (ry.mono s6) l2.nl rv rfl
      rw [show cs.map PyData.int ++ [.int (costT u wk k)] = (cs ++ [costT u wk k]).map PyData.int by rw [List.map_append]; rfl] at l2'
      have l1' : LL K (upd G6 p2 (.lst (ys ++ [v]))) p1 (sh.map enc) := (l1.mono s6).put f2' ne
      have rs' : Rp K (upd G6 p2 (.lst (ys ++ [v]))) sv (enc u) := (rsv.mono s6).updL f2' (noL_enc u)
      have sH2 : Same G4 (upd G6 p2 (.lst (ys ++ [v]))) := fun b o e => by
        rw [upd_ne (ne_of_none e m2)]
        exact s6 _ _ (s' _ _ e)
      generalize upd G6 p2 (.lst (ys ++ [v])) = G7 at *
      have E2 : ∀ {G : Hp}, Same G7 G → EnvR K G [some (.ref a), some (.ref t), some (.int (0 + i)), some vr, some (.ref rb), some sv, some (.ref p1), some (.ref p2), some x] [none, none, none, some (encRule ru), none, some (enc u), none, some (.list ((cs ++ [costT u wk k]).map PyData.int)), some (encDeed wk k)] :=
        fun s => envR_skip (envR_skip (envR_skip (envR_cons (rr4.mono (sH2.trans s)) (envR_skip (envR_cons (rs'.mono s) (envR_skip (envR_cons (l2'.rp.mono s) (envR_cons (rd.mono (sH2.trans s)) envR_nil))))))))
      have lastc : atI ((cs ++ [costT u wk k]).map PyData.int) (-1) = some (.int (costT u wk k)) := by rw [List.map_append]; exact atI_last _ _
      refine ⟨_, false, E2 (Same.refl _), ?_, fun G8 s8 => ?_⟩
      · generalize (cs ++ [costT u wk k]).map PyData.int = zz at lastc
        simp [v_cost u wk k (n := 50) (by omega) (by omega) gu.1 gu.2 ps lgu.1, lastc]
      refine (if_neg Bool.false_ne_true).mpr ?_
      refine ⟨_, enc (behindT ru u wk k), E2 s8, by simp [l_after ru hru u wk k (n := 50) (by omega) (by omega) gu.1 ps], fun v2 G9 s9 rv2 => ?_⟩
      have s79 := s8.trans s9
      obtain ⟨ys1, h1, q1⟩ := (l1'.mono s79).ex
      refine ⟨_, rfl, .inl ⟨rfl, _, SqL.of h1⟩, _, rfl, p1, ys1, v2, rfl, rfl, h1, by have := small1000 (n := ys1.length) (by rw [q1.length, List.length_map]; omega); exact this, ?_⟩
      have lp := LL.push h1 q1 l1.nl rv2 (noL_enc (behindT ru u wk k))
      rw [show sh.map enc ++ [enc (behindT ru u wk k)] = (sh ++ [behindT ru u wk k]).map enc by rw [List.map_append]; rfl] at lp
      refine ⟨v2, some x, behindT ru u wk k, sh ++ [behindT ru u wk k], cs ++ [costT u wk k], rfl, fun b o e => ?_, rv2.updL h1 (noL_enc _), lp, (l2'.mono s79).put h1 (fun z => ne z.symm), by rw [List.length_append]; exact Nat.succ_le_succ z1, by rw [List.length_append]; exact Nat.succ_le_succ z2, g2, legal_congr _ _ _ (fun y => (k2 y).symm) lgu.2.2, by rw [es, List.append_assoc]; rfl, by rw [ec, List.append_assoc]; rfl⟩
      rw [upd_ne (ne_of_none e m1)]
      exact s79 _ _ (sH2 _ _ e)
    · rintro σ H' ⟨sv, x8', u, sh, cs, rfl, s', rsv, l1, l2, z1, z2, gu, lgu, es, ec⟩
      rw [List.drop_eq_nil_of_le (by rw [hrl]; exact Nat.le_refl _)] at es ec
      have es : shps ru ds .nil = sh := by rw [es]; exact List.append_nil sh
      have ec : csts ru ds .nil = cs := by rw [ec]; exact List.append_nil cs
      have rr' := rr4.mono s'
      have E1 : EnvR K H' [some (.ref a), some (.ref t), some (.int (0 + i)), some vr, some (.ref rb), some sv, some (.ref p1), some (.ref p2), x8'] [none, none, none, some (encRule ru), some (.list (encs ds)), none, some (.list (sh.map enc)), some (.list (cs.map PyData.int)), none] :=
        envR_skip (envR_skip (envR_skip (envR_cons rr' (envR_cons (lr4.mono s').rp (envR_skip (envR_cons l1.rp (envR_cons l2.rp (envR_skip envR_nil))))))))
      have n1 : op2 .ne (.list (sh.map enc)) (.list (sh.map enc)) = some (.bool false) := by
        refine ne_self (fun d h => ?_) fun d h => ?_
        · obtain ⟨v, hv, rfl⟩ := List.mem_map.mp h
          have g := shps_good ru hru ds .nil nil_good lg v (by rw [es]; exact hv)
          have := depth_enc v
          have := ht_le v
          have := size6 g.1 g.2
          omega
        · obtain ⟨v, hv, rfl⟩ := List.mem_map.mp h
          exact plain_enc v
      have n2 : op2 .ne (.list (cs.map PyData.int)) (.list (cs.map PyData.int)) = some (.bool false) := by
        refine ne_self (fun d h => ?_) fun d h => ?_
        · obtain ⟨v, hv, rfl⟩ := List.mem_map.mp h
          exact Nat.zero_le _
        · obtain ⟨v, hv, rfl⟩ := List.mem_map.mp h
          rfl
      refine ⟨_, false, E1, ?_, fun G6 s6 => ?_⟩
      · have w1 := v_shapes_along ru hru ds hz lg (n := 50) (by decide)
        have w2 := v_costs_along ru hru ds hz lg (n := 50) (by decide)
        rw [es] at w1
        rw [ec] at w2
        generalize PyData.list (sh.map enc) = dz at *
        generalize PyData.list (cs.map PyData.int) = dc at *
        simp [w1, w2, n1, n2]
      refine (if_neg Bool.false_ne_true).mpr ?_
      exact ⟨_, _, _, _, _, _, _, rfl, (ht4.same s').same s6, scr_fr (t := t) hs4 hne (Fr.same (s'.trans s6))⟩
  · rintro σ H' _
    exact q H'
end
end TT
set_option Elab.async false
set_option linter.all false
set_option maxRecDepth 100000
set_option maxHeartbeats 4000000
/-! The law's def, behind the top. -/
namespace TT
open PySem PySem.Spec PyProof.Rows L2
theorem says_of {K : PySem.W.Frag} (a : (fas.all fun f => f.ok K) = true) (b : (dfs.all fun d => d.ok K) = true) (c : dfs.map (fun d => He.fnW K d.at_) = dfs.map He.DefD.val) : He.SaysD fas dfs K := by
  show (((fas.all fun f => f.ok K) && dfs.all fun d => d.ok K), dfs.map fun d => He.fnW K d.at_) = (true, dfs.map He.DefD.val)
  rw [a, b, c]
  rfl
theorem law_fun {l : PySem.W.OpenLaw} {w : World} {K : PySem.W.Frag} {h : Heap} {mg : Str → Option Value} {fa : Addr} (X : K.In h) (G : h.Ns mainGlobals mg) (hfa : mg "law" = some (.ref fa)) (c : He.SaysD fas dfs K) (cf : famB K = true) :
    ∃ fd : FuncData, (∀ (s : Shared) (v : Value), BindsTo s fd ⟨[v], []⟩ [("_law_script", v)]) ∧ ∀ base : Heap, K.In base → base.Ns mainGlobals mg → FnOk l.prog w K mg base CX0 51 fa fd ["_law_script"] (spLaw K) := by
  have T : Tab K mg := ⟨c, cf, h, X, G⟩
  obtain ⟨fd, F⟩ := T.def_ 95 (x := "law") (i := 113) rfl
  have e := hfa.symm.trans (T.glo 95 (x := "law") rfl)
  cases e
  refine ⟨fd, fun s v => ?_, fun base _ _ => ok_law T F⟩
  exact F.bindsA (ps := ["_law_script"]) (fun kV doc pm an cdv ct us hl => match us, hl with | [a], _ => rfl) s [v] rfl
theorem walk {l : PySem.W.OpenLaw} {q : Program} {loose : List Str} {XP : (Str → Option Value) → Heap → Prop} {YP : World → Heap → Prop} {d : DefRec} {K : Params → PySem.W.Frag} (hn : l.most = some 63) (hdf : d.params.defaults = [])
    (hY : ∀ (w : World) (h : Heap), YP w h → (K w.params).In h)
    (F : ∀ (w : World) (mg : Str → Option Value) (fa : Addr) (h : Heap), (K w.params).In h → h.Ns mainGlobals mg → mg d.name = some (.ref fa) →
      ∃ fd : FuncData, (∀ (s : Shared) (u : Value), BindsTo s fd ⟨[u], []⟩ [("_law_script", u)]) ∧ ∀ base : Heap, (K w.params).In base → base.Ns mainGlobals mg → FnOk l.prog w (K w.params) mg base CX0 51 fa fd ["_law_script"] (spLaw (K w.params))) :
    PySem.W.WalkO q loose XP YP l.row.toRowW d [] (fun f vs => PySem.call f vs) :=
  L2.walk_of (n := 63) (k := 51) (x := "_law_script") (CX := fun _ => CX0) (sp := fun w => spLaw (K w.params)) hn (by decide) hdf ⟨rfl, by decide, by decide⟩ hY F (fun _ _ a ns hl _ hS => ⟨a, ns, rfl, hS, hl, fun _ => rfl⟩) fun _ _ _ _ _ z => z
end TT
open PySem PySem.W PyProof.Rows
set_option maxRecDepth 100000 in
set_option maxHeartbeats 0 in
theorem PySem.Challenge.cw_turnedtrees_k14_whole_rows_holds : PySem.Challenge.rw_turnedtrees_k14_whole_rows.Holds := by
  w_on; o_law; k_head; (case hw => w_witness2)
  k_fill
  refine TT.walk (l := PySem.Challenge.rw_turnedtrees_k14_whole_rows) rfl rfl (fun w h Y => PySem.W.kIn_of Y) ?F
  case F =>
    intro w mg fa h KX G hmg
    exact TT.law_fun KX G hmg (TT.says_of (by kernel_rfl) (by kernel_rfl) (by kernel_rfl)) (by kernel_rfl)
