import PyProof.Rows.All
import Wide.All
import OpenK.AllK
import Wide.FinOn
import HandS.ForMost
import HandS.Style
import HandS.Zip
import HandS.Wide
import KE.DataEq
import HandS.Gcd
import HandS.IsInst
import HandS.SortRule
import HandS.SortInts
import HandS.Star
import PyProof.ReprBulk
import PyProof.ReprReads
import HandS.TupAny
import HandS.Ends
import HandS.TryOnly
import PySem.Challenge.RW_mediantrows_k42_whole_places_by_sums_and
section
set_option Elab.async false
set_option linter.all false
set_option maxRecDepth 100000
/-! Iv: a small pure interpreter over data, for one soundness theorem over the hand layer -/
namespace Iv
open PySem L2

/-- data: what a value is, without addresses; src, cells, scr: the law's source dict, its list of cells, the script -/
inductive D where
  | non | bl (b : Bool) | int (i : Int) | str (x : Str) | lst (xs : List D) | tup (xs : List D) | src | cells | scr | rep (d : D)
mutual
def D.py : D → PyData
  | .non => .none
  | .bl b => .bool b
  | .int i => .int i
  | .str x => .str x
  | .lst xs => .list (pys xs)
  | .tup xs => .tuple (pys xs)
  | .src => .dict []
  | .cells => .dict []
  | .scr => .dict []
  | .rep d => .str d.py.shown
def pys : List D → List PyData
  | [] => []
  | x :: r => x.py :: pys r
end
mutual
/-- no special part, nested at most n deep -/
def fit : Nat → D → Bool
  | _, .non => true
  | _, .bl _ => true
  | _, .int _ => true
  | _, .str _ => true
  | 0, .lst _ => false
  | n + 1, .lst xs => fits n xs
  | 0, .tup _ => false
  | n + 1, .tup xs => fits n xs
  | _, .src => false
  | _, .cells => false
  | _, .scr => false
  | _, .rep _ => false
def fits : Nat → List D → Bool
  | _, [] => true
  | n, x :: r => fit n x && fits n r
end
mutual
/-- the same, in kind too -/
def same : D → D → Bool
  | .non, .non => true
  | .bl a, .bl b => a == b
  | .int a, .int b => decide (a = b)
  | .str a, .str b => decide (a = b)
  | .lst xs, .lst ys => sames xs ys
  | .tup xs, .tup ys => sames xs ys
  | _, _ => false
def sames : List D → List D → Bool
  | [], [] => true
  | x :: r, y :: q => same x y && sames r q
  | _, _ => false
end
mutual
theorem same_py : ∀ x y : D, same x y = true → x.py = y.py
  | .non, .non, _ => rfl
  | .bl a, .bl b, h => by
    have : (a == b) = true := h
    rw [eq_of_beq this]
  | .int a, .int b, h => by
    have : decide (a = b) = true := h
    rw [of_decide_eq_true this]
  | .str a, .str b, h => by
    have : decide (a = b) = true := h
    rw [of_decide_eq_true this]
  | .lst xs, .lst ys, h => by
    rw [D.py, D.py, sames_py xs ys h]
  | .tup xs, .tup ys, h => by
    rw [D.py, D.py, sames_py xs ys h]
theorem sames_py : ∀ xs ys : List D, sames xs ys = true → pys xs = pys ys
  | [], [], _ => rfl
  | x :: r, y :: q, h => by
    have h : (same x y && sames r q) = true := h
    rw [Bool.and_eq_true] at h
    rw [pys, pys, same_py x y h.1, sames_py r q h.2]
end
theorem int_len {i : Int} (h : i.natAbs.log2 < 1920) : (PySem.Str.ofString (toString i)).length ≤ 1921 := by
  have := PySem.int_text_length_le (k := 1920) (by decide) h
  show (PySem.Str.ofString (toString i)).length ≤ 1921
  rw [PySem.ofString_length]
  exact this
mutual
def rok : D → Bool
  | .int i => Nat.ble i.natAbs.log2 1919
  | .str x => x.cps.toList.all fun c => decide (c < 16 ^ 8)
  | .lst xs => roks xs
  | .tup xs => roks xs
  | .non => true
  | .bl _ => true
  | _ => false
def roks : List D → Bool
  | [] => true
  | x :: r => rok x && roks r
end
mutual
def blk : D → Nat
  | .str x => x.cps.size
  | .lst xs => blks xs
  | .tup xs => blks xs
  | _ => 0
def blks : List D → Nat
  | [] => 0
  | x :: r => blk x + 1 + blks r
end
@[irreducible] def reprOk (d : D) : Bool := fit 60 d && (rok d && Nat.ble (blk d) 8000)
theorem reprOk_eq (d : D) : reprOk d = (fit 60 d && (rok d && Nat.ble (blk d) 8000)) := by unfold reprOk; rfl
mutual
theorem rok_py : ∀ d : D, rok d = true → d.py.showable = true ∧ d.py.leavesShort 1921 = true
  | .non, _ => ⟨by rw [D.py]; rfl, by rw [D.py]; rfl⟩
  | .bl _, _ => ⟨by rw [D.py]; rfl, by rw [D.py]; rfl⟩
  | .int i, h => by
    have h : Nat.ble i.natAbs.log2 1919 = true := by simpa only [rok] using h
    have h := Nat.le_of_ble_eq_true h
    rw [D.py]
    refine ⟨by simp only [PyData.showable, decide_eq_true_eq]; omega, ?_⟩
    simp only [PyData.leavesShort, decide_eq_true_eq]
    rw [PyData.shown_int]
    exact int_len (by omega)
  | .str x, h => by
    have h : (x.cps.toList.all fun c => decide (c < 16 ^ 8)) = true := by simpa only [rok] using h
    rw [D.py]
    exact ⟨rfl, by simpa only [PyData.leavesShort] using h⟩
  | .lst xs, h => by
    obtain ⟨a, b⟩ := roks_py xs (by simpa only [rok] using h)
    rw [D.py]
    exact ⟨by simpa only [PyData.showable] using a, by simpa only [PyData.leavesShort] using b⟩
  | .tup xs, h => by
    obtain ⟨a, b⟩ := roks_py xs (by simpa only [rok] using h)
    rw [D.py]
    exact ⟨by simpa only [PyData.showable] using a, by simpa only [PyData.leavesShort] using b⟩
  | .src, h => by simp [rok] at h
  | .cells, h => by simp [rok] at h
  | .scr, h => by simp [rok] at h
  | .rep _, h => by simp [rok] at h
theorem roks_py : ∀ ds : List D, roks ds = true → PyData.showableAll (pys ds) = true ∧ PyData.leavesShortAll 1921 (pys ds) = true
  | [], _ => ⟨by rw [pys]; rfl, by rw [pys]; rfl⟩
  | x :: r, h => by
    simp only [roks, Bool.and_eq_true] at h
    obtain ⟨a, b⟩ := rok_py x h.1
    obtain ⟨c, d⟩ := roks_py r h.2
    rw [pys, PyData.showableAll, PyData.leavesShortAll, a, b, c, d]
    exact ⟨rfl, rfl⟩
end
mutual
theorem blk_py : ∀ (d : D), rok d = true → blk d = d.py.bulk
  | .non, _ => by
    rw [D.py]
    simp only [blk]
    rfl
  | .bl _, _ => by
    rw [D.py]
    simp only [blk]
    rfl
  | .int i, _ => by
    rw [D.py]
    simp only [blk]
    rfl
  | .str x, _ => by rw [D.py, blk, PyData.bulk]
  | .lst xs, h => by rw [D.py, blk, PyData.bulk, blks_py xs (by simpa only [rok] using h)]
  | .tup xs, h => by rw [D.py, blk, PyData.bulk, blks_py xs (by simpa only [rok] using h)]
  | .src, h => by simp [rok] at h
  | .cells, h => by simp [rok] at h
  | .scr, h => by simp [rok] at h
  | .rep _, h => by simp [rok] at h
theorem blks_py : ∀ (ds : List D), roks ds = true → blks ds = PyData.bulkAll (pys ds)
  | [], _ => by rw [pys, blks, PyData.bulkAll]
  | x :: r, h => by
    simp only [roks, Bool.and_eq_true] at h
    rw [pys, blks, PyData.bulkAll, blk_py x h.1, blks_py r h.2]
end
def deq : D → D → Option Bool
  | .int i, .int j => some (decide (i = j))
  | .rep x, .rep y => if same x y then some true else none
  | a, b => if fit 60 a && fit 60 b then some (PyData.eqv a.py b.py) else none

structure Src where
  cells : List Int
  left : Int
  mixed : Int
  turn : Int
structure Sta where
  scr : List Int
  src : Option Src
inductive Slot where
  | none | val (d : D) | own (ds : List D)
abbrev Env := List Slot
/-- what an expression hands on: data; a new list that none else holds; the list that a slot owns -/
inductive RV where
  | val (d : D) | new (ds : List D) | bor (i : Nat)
abbrev Res := Option (RV × Sta)
abbrev KE := RV → Env → Sta → Res
abbrev KD := D → Env → Sta → Res
abbrev KDs := List D → Env → Sta → Res
abbrev KB := Bool → Env → Sta → Res
abbrev KS := Env → Sta → Res
abbrev Fn := List D → Sta → Res
abbrev Tab := List (Str × Fn)

noncomputable def eget (env : Env) (i : Nat) : Slot := (List.rec (motive := fun _ => Nat → Slot) (fun _ => Slot.none) (fun s _ ih i => Nat.rec (motive := fun _ => Slot) s (fun i _ => ih i) i) env) i
noncomputable def eput (env : Env) (i : Nat) (x : Slot) : Env := (List.rec (motive := fun _ => Nat → Env) (fun _ => []) (fun s r ih i => Nat.rec (motive := fun _ => Env) (x :: r) (fun i _ => s :: ih i) i) env) i
noncomputable def tget (T : Tab) (i : Nat) : Option (Str × Fn) := (List.rec (motive := fun _ => Nat → Option (Str × Fn)) (fun _ => none) (fun s _ ih i => Nat.rec (motive := fun _ => Option (Str × Fn)) (some s) (fun i _ => ih i) i) T) i
theorem tget_eq : ∀ (T : Tab) (i : Nat), tget T i = T[i]?
  | [], _ => by simp; rfl
  | _ :: _, 0 => rfl
  | _ :: r, i + 1 => by
    show tget r i = _
    rw [tget_eq r i]; simp

/-- what stands there now -/
noncomputable def RV.look (env : Env) : RV → Option D
  | .val d => some d
  | .new ds => some (.lst ds)
  | .bor i => match eget env i with
    | .own ds => some (.lst ds)
    | .val d => some d
    | .none => none
/-- from now on it may be shared -/
noncomputable def RV.froz (env : Env) : RV → Env
  | .bor i => match eget env i with
    | .own ds => eput env i (.val (.lst ds))
    | _ => env
  | _ => env
noncomputable def toD (rv : RV) (env : Env) (S : Sta) (k : KD) : Res :=
  match rv.look env with
  | some d => k d (rv.froz env) S
  | none => none
noncomputable def peek (rv : RV) (env : Env) (k : D → Res) : Res :=
  match rv.look env with
  | some d => k d
  | none => none
/-- the slots' values when names i.. are stored -/
noncomputable def store (rv : RV) (j : Nat) (env : Env) : Option Env :=
  match rv with
  | .val d => some (eput env j (.val d))
  | .new ds => some (eput env j (.own ds))
  | .bor i => match eget env i with
    | .own ds => some (eput (eput env i (.val (.lst ds))) j (.val (.lst ds)))
    | .val d => some (eput env j (.val d))
    | .none => none

/-! ### operators -/
inductive Op where
  | add | sub | mul | fdiv | mod | pow | shl
  deriving DecidableEq
inductive COp where
  | eq | ne | lt | le | gt | ge | isn | notn | isb | notb | isin | notin
  deriving DecidableEq
def mulOk (i j : Int) : Bool := (decide (i.natAbs < 18446744073709551616) || decide (j.natAbs < 18446744073709551616)) || decide (i.natAbs.log2 + j.natAbs.log2 < 1000000)
def divOk (j : Int) : Bool := (decide (0 < j) && decide (j.natAbs.log2 < 9000)) || (decide (j ≠ 0) && decide (j.natAbs < 1073741824))
def powOk (i j : Int) : Bool := decide (0 ≤ j) && decide (j ≤ 1000000) && decide (i.natAbs < 18446744073709551616)
def fdivI (i j : Int) : Int := i.fdiv j
def fmodI (i j : Int) : Int := i.fmod j
def LINE : Nat := 16777216
/-- the list of the first n numbers of k times xs -/
def reps (xs : List D) : Nat → List D
  | 0 => []
  | n + 1 => xs ++ reps xs n
def bin : Op → D → D → Option RV
  | .add, .int i, .int j => some (.val (.int (i + j)))
  | .add, .str x, .str y => if x.length + y.length ≤ LINE then some (.val (.str (x ++ y))) else none
  | .add, .tup xs, .tup ys => if xs.length + ys.length ≤ LINE then some (.val (.tup (xs ++ ys))) else none
  | .add, .lst xs, .lst ys => if xs.length + ys.length ≤ LINE then some (.new (xs ++ ys)) else none
  | .sub, .int i, .int j => some (.val (.int (i - j)))
  | .mul, .int i, .int j => if mulOk i j then some (.val (.int (i * j))) else none
  | .mul, .lst xs, .int j => if decide (-1000000 < j) && decide (j < 1000000) && decide (xs.length * j.toNat ≤ LINE) then some (.new (reps xs j.toNat)) else none
  | .fdiv, .int i, .int j => if divOk j then some (.val (.int (fdivI i j))) else none
  | .mod, .int i, .int j => if j = 0 then none else some (.val (.int (fmodI i j)))
  | .pow, .int i, .int j => if powOk i j then some (.val (.int (i ^ j.toNat))) else none
  | .shl, .int i, .int j => if powOk i j then some (.val (.int (i * 2 ^ j.toNat))) else none
  | _, _, _ => none
@[irreducible] def catR (xs ys : List D) (k : RV → Res) : Res := if xs.length + ys.length ≤ LINE then k (.new (xs ++ ys)) else none
@[irreducible] def catT (xs ys : List D) (k : RV → Res) : Res := if xs.length + ys.length ≤ LINE then k (.val (.tup (xs ++ ys))) else none
@[irreducible] def repR (xs : List D) (j : Int) (k : RV → Res) : Res := if decide (-1000000 < j) && decide (j < 1000000) && decide (xs.length * j.toNat ≤ LINE) then k (.new (reps xs j.toNat)) else none
theorem catR_eq (xs ys : List D) (k : RV → Res) : catR xs ys k = if xs.length + ys.length ≤ LINE then k (.new (xs ++ ys)) else none := by unfold catR; rfl
theorem catT_eq (xs ys : List D) (k : RV → Res) : catT xs ys k = if xs.length + ys.length ≤ LINE then k (.val (.tup (xs ++ ys))) else none := by unfold catT; rfl
theorem repR_eq (xs : List D) (j : Int) (k : RV → Res) : repR xs j k = if decide (-1000000 < j) && decide (j < 1000000) && decide (xs.length * j.toNat ≤ LINE) then k (.new (reps xs j.toNat)) else none := by unfold repR; rfl
/-- the same, the value handed on -/
noncomputable def binK : Op → D → D → (RV → Res) → Res
  | .add, .int i, .int j, k => k (.val (.int (i + j)))
  | .add, .lst xs, .lst ys, k => catR xs ys k
  | .add, .tup xs, .tup ys, k => catT xs ys k
  | .mul, .lst xs, .int j, k => repR xs j k
  | .sub, .int i, .int j, k => k (.val (.int (i - j)))
  | .mul, .int i, .int j, k => if mulOk i j then k (.val (.int (i * j))) else none
  | .fdiv, .int i, .int j, k => Bool.rec (motive := fun _ => Res) none (k (.val (.int (fdivI i j)))) (divOk j)
  | .mod, .int i, .int j, k => if j = 0 then none else k (.val (.int (fmodI i j)))
  | .pow, .int i, .int j, k => if powOk i j then k (.val (.int (i ^ j.toNat))) else none
  | .shl, .int i, .int j, k => if powOk i j then k (.val (.int (i * 2 ^ j.toNat))) else none
  | op, x, y, k => match bin op x y with
    | some rv => k rv
    | none => none
theorem binK_eq (op : Op) (x y : D) (k : RV → Res) : binK op x y k = match bin op x y with
    | some rv => k rv
    | none => none := by
  unfold binK
  split
  · rfl
  · rename_i xs ys
    rw [catR_eq]
    show _ = match (if xs.length + ys.length ≤ LINE then some (RV.new (xs ++ ys)) else none) with
      | some rv => k rv
      | none => none
    split <;> rfl
  · rename_i xs ys
    rw [catT_eq]
    show _ = match (if xs.length + ys.length ≤ LINE then some (RV.val (.tup (xs ++ ys))) else none) with
      | some rv => k rv
      | none => none
    split <;> rfl
  · rename_i xs j
    rw [repR_eq]
    show _ = match (if decide (-1000000 < j) && decide (j < 1000000) && decide (xs.length * j.toNat ≤ LINE) then some (RV.new (reps xs j.toNat)) else none) with
      | some rv => k rv
      | none => none
    split <;> rfl
  · rfl
  · rename_i i j
    show _ = match (if mulOk i j then some (.val (.int (i * j))) else none) with
      | some rv => k rv
      | none => none
    split <;> rfl
  · rename_i i j
    show Bool.rec (motive := fun _ => Res) none (k (.val (.int (fdivI i j)))) (divOk j) = match (if divOk j = true then some (RV.val (.int (fdivI i j))) else none) with
      | some rv => k rv
      | none => none
    cases divOk j <;> rfl
  · rename_i i j
    show _ = match (if j = 0 then none else some (.val (.int (fmodI i j)))) with
      | some rv => k rv
      | none => none
    split <;> rfl
  · rename_i i j
    show _ = match (if powOk i j then some (.val (.int (i ^ j.toNat))) else none) with
      | some rv => k rv
      | none => none
    split <;> rfl
  · rename_i i j
    show _ = match (if powOk i j then some (.val (.int (i * 2 ^ j.toNat))) else none) with
      | some rv => k rv
      | none => none
    split <;> rfl
  · rfl
theorem binK_inv {op : Op} {x y : D} {k : RV → Res} {r : RV × Sta} (h : binK op x y k = some r) : ∃ rv, bin op x y = some rv ∧ k rv = some r := by
  rw [binK_eq] at h
  split at h
  · rename_i q
    exact ⟨_, q, h⟩
  · cases h
/-- < of ints and of tuples of ints -/
def intsOf : List D → Option (List Int)
  | [] => some []
  | .int i :: r => (intsOf r).map (i :: ·)
  | _ :: _ => none
def anyEq (x : D) : List D → Option Bool
  | [] => some false
  | y :: r => match deq y x with
    | none => none
    | some true => some true
    | some false => anyEq x r
def cmp : COp → D → D → Option Bool
  | .eq, a, b => deq a b
  | .ne, a, b => (deq a b).map (!·)
  | .lt, .int i, .int j => some (decide (i < j))
  | .le, .int i, .int j => some (decide (i ≤ j))
  | .gt, .int i, .int j => some (decide (j < i))
  | .ge, .int i, .int j => some (decide (j ≤ i))
  | .isn, a, .non => match a with
    | .non => some true
    | _ => some false
  | .notn, a, .non => match a with
    | .non => some false
    | _ => some true
  | .isb, .bl a, .bl b => some (a == b)
  | .notb, .bl a, .bl b => some (!(a == b))
  | .isin, a, .tup ys => if fit 60 a && fits 60 ys then some (ys.any fun y => PyData.eqv y.py a.py) else none
  | .isin, a, .lst ys => if fit 60 a && fits 60 ys then some (ys.any fun y => PyData.eqv y.py a.py) else none
  | .notin, a, .tup ys => if fit 60 a && fits 60 ys then some (!ys.any fun y => PyData.eqv y.py a.py) else none
  | .notin, a, .lst ys => if fit 60 a && fits 60 ys then some (!ys.any fun y => PyData.eqv y.py a.py) else none
  | _, _, _ => none

/-! ### subscripts -/
noncomputable def nth (l : List D) (i : Nat) : Option D := (List.rec (motive := fun _ => Nat → Option D) (fun _ => none) (fun s _ ih i => Nat.rec (motive := fun _ => Option D) (some s) (fun i _ => ih i) i) l) i
def ixOf (n : Nat) (i : Int) : Option Nat := match i with
  | .ofNat k => if k < n then some k else none
  | .negSucc k => if k < n then some (n - 1 - k) else none
noncomputable def item : D → D → Option D
  | .lst xs, .int i => match ixOf xs.length i with
    | some k => nth xs k
    | none => none
  | .tup xs, .int i => match ixOf xs.length i with
    | some k => nth xs k
    | none => none
  | _, _ => none
def cutD (xs : List D) (lo hi : Option Int) : List D := (xs.drop (HT.sIx xs.length 0 lo)).take (HT.sIx xs.length xs.length hi - HT.sIx xs.length 0 lo)
noncomputable def sliced : D → Option Int → Option Int → Option RV
  | .lst xs, lo, hi => some (.new (cutD xs lo hi))
  | .tup xs, lo, hi => some (.val (.tup (cutD xs lo hi)))
  | _, _, _ => none

/-! ### built-ins -/
inductive Bi where
  | abs | int | len | sum | tuple | list | bool | all | any | repr | sorted | isInt | isBool | isTup | flatL (fl : List Bool) | flatT (fl : List Bool)
  deriving DecidableEq
def Bi.name : Bi → Str
  | .abs => "abs" | .int => "int" | .len => "len" | .sum => "sum" | .tuple => "tuple" | .list => "list" | .bool => "bool" | .all => "all" | .any => "any" | .repr => "repr" | .sorted => "sorted" | .isInt => "isinstance" | .isBool => "isinstance" | .isTup => "isinstance" | .flatL _ => "list" | .flatT _ => "list"
/-- a call with one value -/
def Bi.one : Bi → Bool
  | .isInt => false | .isBool => false | .isTup => false | .flatL _ => false | .flatT _ => false
  | _ => true
def Bi.cls : Bi → Str
  | .isInt => "int" | .isBool => "bool" | .isTup => "tuple" | _ => ""
inductive Bj where
  | max2 | min2
  deriving DecidableEq
def Bj.name : Bj → Str
  | .max2 => "max" | .min2 => "min"
def boolsOf : List D → Option (List Bool)
  | [] => some []
  | .bl b :: r => (boolsOf r).map (b :: ·)
  | _ :: _ => none
def sumI : List Int → Int
  | [] => 0
  | i :: r => i + sumI r
/-! sorted -/
def insI (x : Int) : List Int → List Int
  | [] => [x]
  | y :: r => if x ≤ y then x :: y :: r else y :: insI x r
def isort : List Int → List Int
  | [] => []
  | x :: r => insI x (isort r)
def leP (x y : Int × Int) : Bool := decide (x.1 < y.1) || (decide (x.1 = y.1) && decide (x.2 ≤ y.2))
def insP (x : Int × Int) : List (Int × Int) → List (Int × Int)
  | [] => [x]
  | y :: r => if leP x y then x :: y :: r else y :: insP x r
def psort : List (Int × Int) → List (Int × Int)
  | [] => []
  | x :: r => insP x (psort r)
def prsOf : List D → Option (List (Int × Int))
  | [] => some []
  | .tup [.int a, .int b] :: r => (prsOf r).map ((a, b) :: ·)
  | _ :: _ => none
def prD (p : Int × Int) : D := .tup [.int p.1, .int p.2]
def sortD (xs : List D) : Option (List D) := match intsOf xs with
  | some ns => some ((isort ns).map .int)
  | none => match prsOf xs with
    | some ps => some ((psort ps).map prD)
    | none => none
/-- what stands behind stars is laid flat -/
def flat : List Bool → List D → Option (List D)
  | [], [] => some []
  | true :: f, .lst xs :: r => (flat f r).map (xs ++ ·)
  | true :: f, .tup xs :: r => (flat f r).map (xs ++ ·)
  | false :: f, d :: r => (flat f r).map (d :: ·)
  | _, _ => none
/-- built-ins that read one value -/
def bi1 (S : Sta) : Bi → D → Option RV
  | .abs, .int i => some (.val (.int (if i < 0 then -i else i)))
  | .int, .int i => some (.val (.int i))
  | .int, .bl b => some (.val (.int (if b then 1 else 0)))
  | .bool, .int i => some (.val (.bl (i != 0)))
  | .bool, .bl b => some (.val (.bl b))
  | .len, .lst xs => some (.val (.int xs.length))
  | .len, .tup xs => some (.val (.int xs.length))
  | .len, .cells => match S.src with
    | some s => some (.val (.int s.cells.length))
    | none => none
  | .sum, .lst xs => match intsOf xs with
    | some ns => some (.val (.int (sumI ns)))
    | none => none
  | .tuple, .lst xs => some (.val (.tup xs))
  | .tuple, .tup xs => some (.val (.tup xs))
  | .list, .lst xs => some (.new xs)
  | .list, .tup xs => some (.new xs)
  | .all, .lst xs => match boolsOf xs with
    | some bs => some (.val (.bl (bs.all id)))
    | none => none
  | .any, .lst xs => match boolsOf xs with
    | some bs => some (.val (.bl (bs.any id)))
    | none => none
  | .repr, d => if reprOk d then some (.val (.rep d)) else none
  | .sorted, .lst xs => match sortD xs with
    | some ys => some (.new ys)
    | none => none
  | .isInt, .int _ => some (.val (.bl true))
  | .isInt, .bl _ => some (.val (.bl true))
  | .isInt, .non => some (.val (.bl false))
  | .isInt, .tup _ => some (.val (.bl false))
  | .isBool, .bl _ => some (.val (.bl true))
  | .isBool, .int _ => some (.val (.bl false))
  | .isBool, .non => some (.val (.bl false))
  | .isBool, .tup _ => some (.val (.bl false))
  | .isTup, .tup _ => some (.val (.bl true))
  | .isTup, .int _ => some (.val (.bl false))
  | .isTup, .bl _ => some (.val (.bl false))
  | .isTup, .non => some (.val (.bl false))
  | .flatL fl, .lst ds => match flat fl ds with
    | some xs => if xs.length ≤ LINE then some (.new xs) else none
    | none => none
  | .flatT fl, .lst ds => match flat fl ds with
    | some xs => if xs.length ≤ LINE then some (.val (.tup xs)) else none
    | none => none
  | _, _ => none
def bi2 : Bj → D → D → Option RV
  | .max2, .int i, .int j => some (.val (.int (if j > i then j else i)))
  | .min2, .int i, .int j => some (.val (.int (if j < i then j else i)))
  | _, _, _ => none

/-! ### the source -/
inductive Fld where
  | cells | left | mixed | turn
  deriving DecidableEq
def Fld.name : Fld → Str
  | .cells => "cells" | .left => "left" | .mixed => "mixed" | .turn => "turn"
def Src.get (s : Src) : Fld → D
  | .cells => .cells
  | .left => .int s.left
  | .mixed => .int s.mixed
  | .turn => .int s.turn
def Src.put (s : Src) : Fld → D → Option Src
  | .left, .int i => some { s with left := i }
  | .mixed, .int i => some { s with mixed := i }
  | .turn, .int i => some { s with turn := i }
  | _, _ => none
def lastI : List Int → Option (Int × List Int)
  | [] => none
  | [i] => some (i, [])
  | i :: r => match lastI r with
    | some (j, q) => some (j, i :: q)
    | none => none

/-! ### the IR -/
inductive Tg where
  | nm (i : Nat) | tup (ts : List Tg)
mutual
inductive E where
  | var (i : Nat)
  | int (z : Int) | bl (b : Bool) | non | str (x : Str)
  | tup (es : Es) | lst (es : Es)
  | bin (op : Op) (a b : E)
  | neg (a : E) | not (a : E)
  | cmp (op : COp) (a b : E)
  | chain (op op' : COp) (a b c : E)
  | and (a b : E) | or (a b : E)
  | ite (c a b : E)
  | idx (a i : E)
  | slc (a : E) (lo hi : Option E)
  | rev (a : E)
  | call (f : Nat) (es : Es)
  | bi1 (b : Bi) (a : E) | bi2 (b : Bj) (a c : E)
  | sget (a : E) (f : Fld) | spop (a : E) | mks (a b c d : E)
  | lc (own : List Nat) (elt : E) (tg : Tg) (it : It) (c : Option E)
inductive Es where
  | nil | cons (e : E) (r : Es)
/-- what is walked -/
inductive It where
  | seq (e : E) | rg1 (e : E) | rg2 (a b : E) | enu (e : E)
end
inductive Sm where
  | asg (tg : Tg) (e : E)
  | par (ts : List Tg) (es : Es)
  | app (i : Nat) (e : E)
  | sset (a : E) (f : Fld) (e : E)
  | drop (e : E)
  | ret (e : E) | retn
  | cond (c : E) (a b : List Sm)
  | whl (n : Nat) (c : E) (b : List Sm)
  | for (tg : Tg) (it : It) (b : List Sm)
  | pass | brk | cont | never

/-! ### what the interpreter does -/
mutual
noncomputable def bindD : Tg → D → Env → Option Env
  | .nm j, d, env => some (eput env j (.val d))
  | .tup ts, d, env => match d with
    | .tup ds => bindDs ts ds env
    | .lst ds => bindDs ts ds env
    | _ => none
noncomputable def bindDs : List Tg → List D → Env → Option Env
  | [], [], env => some env
  | t :: ts, d :: ds, env => match bindD t d env with
    | some env' => bindDs ts ds env'
    | none => none
  | _, _, _ => none
end
noncomputable def bind1 (tg : Tg) (rv : RV) (env : Env) (S : Sta) (k : KS) : Res :=
  match tg with
  | .nm j => match store rv j env with
    | some env' => k env' S
    | none => none
  | .tup ts => toD rv env S fun d env S => match bindD (.tup ts) d env with
      | some env' => k env' S
      | none => none
/-- several targets, a value each: new lists are handed on -/
noncomputable def bindRs : List Tg → List RV → Env → Option Env
  | [], [], env => some env
  | t :: ts, rv :: rvs, env => match t with
    | .nm j => match store rv j env with
      | some env' => bindRs ts rvs env'
      | none => none
    | .tup us => match rv with
      | .val d => match bindD (.tup us) d env with
        | some env' => bindRs ts rvs env'
        | none => none
      | _ => none
  | _, _, _ => none
noncomputable def wipeE (env : Env) : List Nat → Env
  | [] => env
  | i :: r => eput (wipeE env r) i .none
noncomputable def backE (env0 env : Env) : List Nat → Env
  | [] => env
  | i :: r => eput (backE env0 env r) i (eget env0 i)
noncomputable def lcR (turn : D → List D → Env → Sta → (List D → Env → Sta → Res) → Res) (l : List D) : List D → Env → Sta → KDs → Res :=
  List.rec (motive := fun _ => List D → Env → Sta → KDs → Res) (fun acc env S k => k acc env S) (fun x _ ih acc env S k => turn x acc env S fun acc env S => ih acc env S k) l
@[irreducible] noncomputable def lcGo (turn : D → List D → Env → Sta → (List D → Env → Sta → Res) → Res) (l acc : List D) (env : Env) (S : Sta) (k : KDs) : Res := lcR turn l acc env S k
theorem lcGo_nil (turn : D → List D → Env → Sta → (List D → Env → Sta → Res) → Res) (acc : List D) (env : Env) (S : Sta) (k : KDs) : lcGo turn [] acc env S k = k acc env S := by unfold lcGo; rfl
theorem lcGo_cons (turn : D → List D → Env → Sta → (List D → Env → Sta → Res) → Res) (x : D) (r acc : List D) (env : Env) (S : Sta) (k : KDs) : lcGo turn (x :: r) acc env S k = turn x acc env S fun acc env S => lcGo turn r acc env S k := by
  unfold lcGo; rfl
def rangeD (lo : Int) : Nat → List D
  | 0 => []
  | n + 1 => .int lo :: rangeD (lo + 1) n
def enumD (i : Nat) : List D → List D
  | [] => []
  | x :: r => .tup [.int i, x] :: enumD (i + 1) r
def rgOk (i : Int) : Bool := decide (-4611686018427387904 ≤ i) && decide (i < 4611686018427387904)
def asBl (k : KB) : KE := fun rv env S => match rv with
  | .val (.bl b) => k b env S
  | _ => none
def asInt (k : Int → Env → Sta → Res) : KE := fun rv env S => match rv with
  | .val (.int i) => k i env S
  | _ => none
def giveRV (k : KE) (o : Option RV) (env : Env) (S : Sta) : Res := match o with
  | some rv => k rv env S
  | none => none
def giveBl (k : KE) (o : Option Bool) (env : Env) (S : Sta) : Res := match o with
  | some b => k (.val (.bl b)) env S
  | none => none
/-- one of two -/
noncomputable def selB {α : Type} (b : Bool) (x y : α) : α := Bool.rec (motive := fun _ => α) y x b
/-- what a piece hands on: a state, or it fails -/
noncomputable def andO {α β : Type} (o : Option α) (k : α → Option β) : Option β := Option.rec (motive := fun _ => Option β) none (fun a => k a) o
@[irreducible] def pushR (ds : List D) (d : D) (k : List D → Res) : Res := if ds.length < LINE then k (ds ++ [d]) else none
@[irreducible] noncomputable def sliceR (x : D) (lo hi : Option Int) (k : RV → Res) : Res := match sliced x lo hi with
  | some rv => k rv
  | none => none
@[irreducible] def revR (xs : List D) (k : RV → Res) : Res := k (.new xs.reverse)
@[irreducible] def revT (xs : List D) (k : RV → Res) : Res := k (.val (.tup xs.reverse))
theorem revT_eq (xs : List D) (k : RV → Res) : revT xs k = k (.val (.tup xs.reverse)) := by unfold revT; rfl
@[irreducible] def lenR (xs : List D) (k : RV → Res) : Res := k (.val (.int xs.length))
@[irreducible] def sumR (xs : List D) (k : RV → Res) : Res := match intsOf xs with
  | some ns => k (.val (.int (sumI ns)))
  | none => none
theorem pushR_eq (ds : List D) (d : D) (k : List D → Res) : pushR ds d k = if ds.length < LINE then k (ds ++ [d]) else none := by unfold pushR; rfl
theorem sliceR_eq (x : D) (lo hi : Option Int) (k : RV → Res) : sliceR x lo hi k = match sliced x lo hi with
  | some rv => k rv
  | none => none := by unfold sliceR; rfl
theorem revR_eq (xs : List D) (k : RV → Res) : revR xs k = k (.new xs.reverse) := by unfold revR; rfl
theorem lenR_eq (xs : List D) (k : RV → Res) : lenR xs k = k (.val (.int xs.length)) := by unfold lenR; rfl
theorem sumR_eq (xs : List D) (k : RV → Res) : sumR xs k = match intsOf xs with
  | some ns => k (.val (.int (sumI ns)))
  | none => none := by unfold sumR; rfl
@[irreducible] def allR (xs : List D) (k : RV → Res) : Res := match boolsOf xs with
  | some bs => k (.val (.bl (bs.all id)))
  | none => none
@[irreducible] def anyR (xs : List D) (k : RV → Res) : Res := match boolsOf xs with
  | some bs => k (.val (.bl (bs.any id)))
  | none => none
@[irreducible] def reprR (d : D) (k : RV → Res) : Res := if reprOk d = true then k (.val (.rep d)) else none
@[irreducible] def sortR (xs : List D) (k : RV → Res) : Res := match sortD xs with
  | some ys => k (.new ys)
  | none => none
@[irreducible] def flatLR (fl : List Bool) (ds : List D) (k : RV → Res) : Res := match flat fl ds with
  | some xs => if xs.length ≤ LINE then k (.new xs) else none
  | none => none
@[irreducible] def flatTR (fl : List Bool) (ds : List D) (k : RV → Res) : Res := match flat fl ds with
  | some xs => if xs.length ≤ LINE then k (.val (.tup xs)) else none
  | none => none
noncomputable def bi1R (S : Sta) (b : Bi) (x : D) (k : RV → Res) : Res := match b, x with
  | .len, .lst xs => lenR xs k
  | .len, .tup xs => lenR xs k
  | .sum, .lst xs => sumR xs k
  | .all, .lst xs => allR xs k
  | .any, .lst xs => anyR xs k
  | .repr, d => reprR d k
  | .sorted, .lst xs => sortR xs k
  | .flatL fl, .lst ds => flatLR fl ds k
  | .flatT fl, .lst ds => flatTR fl ds k
  | b, x => match bi1 S b x with
    | some rv => k rv
    | none => none
theorem bi1R_eq (S : Sta) (b : Bi) (x : D) (k : RV → Res) : bi1R S b x k = match bi1 S b x with
    | some rv => k rv
    | none => none := by
  by_cases hb : b = .repr
  · subst hb
    show reprR x k = match (if reprOk x then some (RV.val (.rep x)) else none) with
      | some rv => k rv
      | none => none
    unfold reprR
    split <;> rfl
  cases b <;> cases x <;> first | rfl | exact absurd rfl hb | skip
  case sorted.lst xs =>
    show sortR xs k = _
    unfold sortR
    simp only [bi1]
    cases sortD xs <;> rfl
  case flatL.lst fl ds =>
    show flatLR fl ds k = _
    unfold flatLR
    simp only [bi1]
    cases flat fl ds with
    | none => rfl
    | some xs =>
      show (if xs.length ≤ LINE then k (.new xs) else none) = match (if xs.length ≤ LINE then some (RV.new xs) else none) with
        | some rv => k rv
        | none => none
      split <;> rfl
  case flatT.lst fl ds =>
    show flatTR fl ds k = _
    unfold flatTR
    simp only [bi1]
    cases flat fl ds with
    | none => rfl
    | some xs =>
      show (if xs.length ≤ LINE then k (.val (.tup xs)) else none) = match (if xs.length ≤ LINE then some (RV.val (.tup xs)) else none) with
        | some rv => k rv
        | none => none
      split <;> rfl
  case len.lst xs => exact lenR_eq xs k
  case len.tup xs => exact lenR_eq xs k
  case all.lst xs =>
    show allR xs k = _
    unfold allR
    simp only [bi1]
    cases boolsOf xs <;> rfl
  case any.lst xs =>
    show anyR xs k = _
    unfold anyR
    simp only [bi1]
    cases boolsOf xs <;> rfl
  case sum.lst xs =>
    show sumR xs k = _
    unfold sumR
    simp only [bi1]
    cases intsOf xs <;> rfl
theorem ble_rec (n : Nat) (x : Res) : Bool.rec (motive := fun _ => Res) none x (Nat.ble n LINE) = if n ≤ LINE then x else none := by
  by_cases h : n ≤ LINE
  · rw [if_pos h, Nat.ble_eq_true_of_le h]
  · rw [if_neg h]
    cases hb : Nat.ble n LINE with
    | false => rfl
    | true => exact absurd (Nat.le_of_ble_eq_true hb) h
@[irreducible] def deepR (x y : D) (k : Bool → Res) : Res := match deq x y with
  | some b => k b
  | none => none
theorem deepR_eq (x y : D) (k : Bool → Res) : deepR x y k = match deq x y with
  | some b => k b
  | none => none := by unfold deepR; rfl
def eqR (x y : D) (k : Bool → Res) : Res := match x, y with
  | .int i, .int j => k (decide (i = j))
  | x, y => deepR x y k
@[irreducible] def inR (x : D) (ys : List D) (k : Bool → Res) : Res := if fit 60 x && fits 60 ys then k (ys.any fun y => PyData.eqv y.py x.py) else none
theorem inR_eq (x : D) (ys : List D) (k : Bool → Res) : inR x ys k = if fit 60 x && fits 60 ys then k (ys.any fun y => PyData.eqv y.py x.py) else none := by unfold inR; rfl
@[irreducible] def inT (x : D) (ys : List D) (k : Bool → Res) : Res := if fit 60 x && fits 60 ys then k (ys.any fun y => PyData.eqv y.py x.py) else none
theorem inT_eq (x : D) (ys : List D) (k : Bool → Res) : inT x ys k = if fit 60 x && fits 60 ys then k (ys.any fun y => PyData.eqv y.py x.py) else none := by unfold inT; rfl
def inW (x y : D) (k : Bool → Res) : Res := match y with
  | .lst ys => inR x ys k
  | .tup ys => inT x ys k
  | y => match cmp .isin x y with
    | some b => k b
    | none => none
theorem cmp_not (x y : D) : cmp .notin x y = (cmp .isin x y).map (!·) := by
  cases y <;> try rfl
  case lst ys =>
    show (if fit 60 x && fits 60 ys then some (!ys.any fun y => PyData.eqv y.py x.py) else none) = (if fit 60 x && fits 60 ys then some (ys.any fun y => PyData.eqv y.py x.py) else none).map (!·)
    split <;> rfl
  case tup ys =>
    show (if fit 60 x && fits 60 ys then some (!ys.any fun y => PyData.eqv y.py x.py) else none) = (if fit 60 x && fits 60 ys then some (ys.any fun y => PyData.eqv y.py x.py) else none).map (!·)
    split <;> rfl
theorem inW_eq (x y : D) (k : Bool → Res) : inW x y k = match cmp .isin x y with
    | some b => k b
    | none => none := by
  cases y <;> try rfl
  case lst ys =>
    show inR x ys k = match (if fit 60 x && fits 60 ys then some (ys.any fun y => PyData.eqv y.py x.py) else none) with
      | some b => k b
      | none => none
    rw [inR_eq]
    split <;> rfl
  case tup ys =>
    show inT x ys k = match (if fit 60 x && fits 60 ys then some (ys.any fun y => PyData.eqv y.py x.py) else none) with
      | some b => k b
      | none => none
    rw [inT_eq]
    split <;> rfl
def isN : D → Bool
  | .non => true
  | _ => false
@[irreducible] def isnR (x : D) (k : Bool → Res) : Res := k (isN x)
theorem isnR_eq (x : D) (k : Bool → Res) : isnR x k = k (isN x) := by unfold isnR; rfl
def isnW (x y : D) (k : Bool → Res) : Res := match y with
  | .non => isnR x k
  | y => match cmp .isn x y with
    | some b => k b
    | none => none
theorem isn_non (x : D) : cmp .isn x .non = some (isN x) := by cases x <;> rfl
theorem cmp_notn (x y : D) : cmp .notn x y = (cmp .isn x y).map (!·) := by
  cases y <;> cases x <;> rfl
theorem isnW_eq (x y : D) (k : Bool → Res) : isnW x y k = match cmp .isn x y with
    | some b => k b
    | none => none := by
  cases y <;> try rfl
  show isnR x k = _
  rw [isn_non, isnR_eq]
def cmpW (op : COp) (x y : D) (k : Bool → Res) : Res := match op with
  | .isn => isnW x y k
  | .notn => isnW x y fun b => k (!b)
  | .eq => eqR x y k
  | .ne => eqR x y fun b => k (!b)
  | .isin => inW x y k
  | .notin => inW x y fun b => k (!b)
  | op => match cmp op x y with
    | some b => k b
    | none => none
theorem eqR_eq (x y : D) (k : Bool → Res) : eqR x y k = match deq x y with
    | some b => k b
    | none => none := by
  cases x <;> cases y <;> first | rfl | exact deepR_eq _ _ k
theorem cmpW_isn (x y : D) (k : Bool → Res) : isnW x y (fun b => k (!b)) = match cmp .notn x y with
    | some b => k b
    | none => none := by
  rw [isnW_eq, cmp_notn]
  cases cmp .isn x y <;> rfl
theorem cmpW_eq (op : COp) (x y : D) (k : Bool → Res) : cmpW op x y k = match cmp op x y with
    | some b => k b
    | none => none := by
  cases op <;> try rfl
  · exact eqR_eq x y k
  · show eqR x y (fun b => k (!b)) = match (deq x y).map (!·) with
      | some b => k b
      | none => none
    rw [eqR_eq]
    cases deq x y <;> rfl
  · exact isnW_eq x y k
  · exact cmpW_isn x y k
  · exact inW_eq x y k
  · show inW x y (fun b => k (!b)) = _
    rw [inW_eq, cmp_not]
    cases cmp .isin x y <;> rfl
theorem chain_eq (o : Option Bool) (A B : Res) : (andO o fun b => selB b A B) = match o with
    | some true => A
    | some false => B
    | none => none := by
  cases o with
  | none => rfl
  | some b => cases b <;> rfl
abbrev EvF := Env → Sta → KE → Res
noncomputable def evsL (l : List EvF) : Env → Sta → KDs → Res :=
  List.rec (motive := fun _ => Env → Sta → KDs → Res) (fun env S k => k [] env S) (fun e _ ih env S k => e env S fun rv env S => toD rv env S fun d env S => ih env S fun ds env S => k (d :: ds) env S) l
/-- as evsL; a new list stays new -/
noncomputable def evrL (l : List EvF) : Env → Sta → (List RV → Env → Sta → Res) → Res :=
  List.rec (motive := fun _ => Env → Sta → (List RV → Env → Sta → Res) → Res) (fun env S k => k [] env S) (fun e _ ih env S k => e env S fun rv env S => match rv with
    | .new ds => ih env S fun rvs env S => k (.new ds :: rvs) env S
    | rv => toD rv env S fun d env S => ih env S fun rvs env S => k (.val d :: rvs) env S) l
def evoL (o : Option EvF) (env : Env) (S : Sta) (k : Option Int → Env → Sta → Res) : Res := match o with
  | none => k none env S
  | some e => e env S (asInt fun i env S => k (some i) env S)
def evcL (o : Option EvF) (env : Env) (S : Sta) (k : KB) : Res := match o with
  | none => k true env S
  | some e => e env S (asBl k)
noncomputable def ev (T : Tab) (x0 : E) : EvF := @E.rec (fun _ => EvF) (fun _ => List EvF) (fun _ => Env → Sta → KDs → Res) (fun _ => Option EvF)
  (fun i  env S k => match eget env i with
    | .val d => k (.val d) env S
    | .own _ => k (.bor i) env S
    | .none => none)
  (fun z  env S k => k (.val (.int z)) env S)
  (fun b  env S k => k (.val (.bl b)) env S)
  (fun env S k => k (.val .non) env S)
  (fun x  env S k => k (.val (.str x)) env S)
  (fun es hes env S k => evsL hes env S fun ds env S => Bool.rec (motive := fun _ => Res) none (k (.val (.tup ds)) env S) (Nat.ble ds.length LINE))
  (fun es hes env S k => evsL hes env S fun ds env S => Bool.rec (motive := fun _ => Res) none (k (.new ds) env S) (Nat.ble ds.length LINE))
  (fun op a b ha hb env S k => ha env S fun ra env S => hb env S fun rb env S => match ra.look env with
    | some x => match rb.look env with
      | some y => binK op x y fun rv => k rv env S
      | none => none
    | none => none)
  (fun a ha env S k => ha env S (asInt fun i env S => k (.val (.int (-i))) env S))
  (fun a ha env S k => ha env S (asBl fun b env S => k (.val (.bl (!b))) env S))
  (fun op a b ha hb env S k => ha env S fun ra env S => hb env S fun rb env S => match ra.look env with
    | some x => match rb.look env with
      | some y => cmpW op x y fun b => k (.val (.bl b)) env S
      | none => none
    | none => none)
  (fun op op' a b c ha hb hc env S k => ha env S (asInt fun x env S => hb env S (asInt fun y env S => andO (cmp op (.int x) (.int y)) fun b => selB b (hc env S (asInt fun z env S => giveBl k (cmp op' (.int y) (.int z)) env S)) (k (.val (.bl false)) env S))))
  (fun a b ha hb env S k => ha env S (asBl fun c env S => selB c (hb env S k) (k (.val (.bl false)) env S)))
  (fun a b ha hb env S k => ha env S (asBl fun c env S => selB c (k (.val (.bl true)) env S) (hb env S k)))
  (fun c a b hc ha hb env S k => hc env S (asBl fun c env S => selB c (ha env S k) (hb env S k)))
  (fun a i ha hi env S k => ha env S fun ra env S => hi env S fun ri env S => match ra.look env with
    | some x => match ri.look env with
      | some y => andO (item x y) fun d => k (.val d) env S
      | none => none
    | none => none)
  (fun a lo hi ha hlo hhi env S k => ha env S fun ra env S => evoL hlo env S fun l env S => evoL hhi env S fun h env S => match ra.look env with
    | some x => sliceR x l h fun rv => k rv env S
    | none => none)
  (fun a ha env S k => ha env S fun ra env S => match ra.look env with
    | some (.lst xs) => revR xs fun rv => k rv env S
    | some (.tup xs) => revT xs fun rv => k rv env S
    | _ => none)
  (fun f es hes env S k => evsL hes env S fun ds env S => match tget T f with
    | some (_, φ) => andO (φ ds S) fun p => k p.1 env p.2
    | none => none)
  (fun b a ha env S k => ha env S fun ra env S => match ra.look env with
    | some x => bi1R S b x fun rv => k rv env S
    | none => none)
  (fun b a c ha hc env S k => ha env S fun ra env S => hc env S fun rb env S => match ra.look env with
    | some x => match rb.look env with
      | some y => giveRV k (bi2 b x y) env S
      | none => none
    | none => none)
  (fun a f ha env S k => ha env S fun ra env S => match ra with
    | .val .src => match S.src with
      | some s => k (.val (s.get f)) env S
      | none => none
    | _ => none)
  (fun a ha env S k => ha env S fun ra env S => match ra with
    | .val .cells => match S.src with
      | some s => andO (lastI s.cells) fun p => k (.val (.int p.1)) env { S with src := some { s with cells := p.2 } }
      | none => none
    | _ => none)
  (fun a b c d ha hb hc hd env S k => ha env S fun ra env S => hb env S (asInt fun x env S => hc env S (asInt fun y env S => hd env S (asInt fun z env S => match ra with
    | .new ds => andO (intsOf ds) fun ns => match S.src with
        | none => k (.val .src) env { S with src := some ⟨ns, x, y, z⟩ }
        | some _ => none
    | _ => none))))
  (fun own elt tg it c helt hit hc env S k => hit env S fun ds env0 S => lcGo (fun x acc env S k => bind1 tg (.val x) env S fun env S =>
      evcL hc env S fun b env S => selB b (helt env S fun rv env S => toD rv env S fun d env S => if acc.length < LINE then k (acc ++ [d]) (wipeE env own) S else none)
        (k acc (wipeE env own) S)) ds [] (wipeE env0 own) S fun acc env S => k (.new acc) (backE env0 env own) S)
  []
  (fun _ _ he hr => he :: hr)
  (fun e he env S k => he env S fun rv env S => toD rv env S fun d env S => match d with
    | .lst xs => k xs env S
    | .tup xs => k xs env S
    | .scr => k (S.scr.map .int) env S
    | _ => none)
  (fun e he env S k => he env S (asInt fun i env S => if rgOk i then k (rangeD 0 i.toNat) env S else none))
  (fun a b ha hb env S k => ha env S (asInt fun i env S => hb env S (asInt fun j env S => if rgOk i && rgOk j then k (rangeD i (j - i).toNat) env S else none)))
  (fun e he env S k => he env S fun rv env S => toD rv env S fun d env S => match d with
    | .lst xs => k (enumD 0 xs) env S
    | _ => none)
  none
  (fun _ h => some h)
  x0
noncomputable def evl (T : Tab) (x0 : Es) : List EvF := @Es.rec (fun _ => EvF) (fun _ => List EvF) (fun _ => Env → Sta → KDs → Res) (fun _ => Option EvF)
  (fun i  env S k => match eget env i with
    | .val d => k (.val d) env S
    | .own _ => k (.bor i) env S
    | .none => none)
  (fun z  env S k => k (.val (.int z)) env S)
  (fun b  env S k => k (.val (.bl b)) env S)
  (fun env S k => k (.val .non) env S)
  (fun x  env S k => k (.val (.str x)) env S)
  (fun es hes env S k => evsL hes env S fun ds env S => Bool.rec (motive := fun _ => Res) none (k (.val (.tup ds)) env S) (Nat.ble ds.length LINE))
  (fun es hes env S k => evsL hes env S fun ds env S => Bool.rec (motive := fun _ => Res) none (k (.new ds) env S) (Nat.ble ds.length LINE))
  (fun op a b ha hb env S k => ha env S fun ra env S => hb env S fun rb env S => match ra.look env with
    | some x => match rb.look env with
      | some y => binK op x y fun rv => k rv env S
      | none => none
    | none => none)
  (fun a ha env S k => ha env S (asInt fun i env S => k (.val (.int (-i))) env S))
  (fun a ha env S k => ha env S (asBl fun b env S => k (.val (.bl (!b))) env S))
  (fun op a b ha hb env S k => ha env S fun ra env S => hb env S fun rb env S => match ra.look env with
    | some x => match rb.look env with
      | some y => cmpW op x y fun b => k (.val (.bl b)) env S
      | none => none
    | none => none)
  (fun op op' a b c ha hb hc env S k => ha env S (asInt fun x env S => hb env S (asInt fun y env S => andO (cmp op (.int x) (.int y)) fun b => selB b (hc env S (asInt fun z env S => giveBl k (cmp op' (.int y) (.int z)) env S)) (k (.val (.bl false)) env S))))
  (fun a b ha hb env S k => ha env S (asBl fun c env S => selB c (hb env S k) (k (.val (.bl false)) env S)))
  (fun a b ha hb env S k => ha env S (asBl fun c env S => selB c (k (.val (.bl true)) env S) (hb env S k)))
  (fun c a b hc ha hb env S k => hc env S (asBl fun c env S => selB c (ha env S k) (hb env S k)))
  (fun a i ha hi env S k => ha env S fun ra env S => hi env S fun ri env S => match ra.look env with
    | some x => match ri.look env with
      | some y => andO (item x y) fun d => k (.val d) env S
      | none => none
    | none => none)
  (fun a lo hi ha hlo hhi env S k => ha env S fun ra env S => evoL hlo env S fun l env S => evoL hhi env S fun h env S => match ra.look env with
    | some x => sliceR x l h fun rv => k rv env S
    | none => none)
  (fun a ha env S k => ha env S fun ra env S => match ra.look env with
    | some (.lst xs) => revR xs fun rv => k rv env S
    | some (.tup xs) => revT xs fun rv => k rv env S
    | _ => none)
  (fun f es hes env S k => evsL hes env S fun ds env S => match tget T f with
    | some (_, φ) => andO (φ ds S) fun p => k p.1 env p.2
    | none => none)
  (fun b a ha env S k => ha env S fun ra env S => match ra.look env with
    | some x => bi1R S b x fun rv => k rv env S
    | none => none)
  (fun b a c ha hc env S k => ha env S fun ra env S => hc env S fun rb env S => match ra.look env with
    | some x => match rb.look env with
      | some y => giveRV k (bi2 b x y) env S
      | none => none
    | none => none)
  (fun a f ha env S k => ha env S fun ra env S => match ra with
    | .val .src => match S.src with
      | some s => k (.val (s.get f)) env S
      | none => none
    | _ => none)
  (fun a ha env S k => ha env S fun ra env S => match ra with
    | .val .cells => match S.src with
      | some s => andO (lastI s.cells) fun p => k (.val (.int p.1)) env { S with src := some { s with cells := p.2 } }
      | none => none
    | _ => none)
  (fun a b c d ha hb hc hd env S k => ha env S fun ra env S => hb env S (asInt fun x env S => hc env S (asInt fun y env S => hd env S (asInt fun z env S => match ra with
    | .new ds => andO (intsOf ds) fun ns => match S.src with
        | none => k (.val .src) env { S with src := some ⟨ns, x, y, z⟩ }
        | some _ => none
    | _ => none))))
  (fun own elt tg it c helt hit hc env S k => hit env S fun ds env0 S => lcGo (fun x acc env S k => bind1 tg (.val x) env S fun env S =>
      evcL hc env S fun b env S => selB b (helt env S fun rv env S => toD rv env S fun d env S => if acc.length < LINE then k (acc ++ [d]) (wipeE env own) S else none)
        (k acc (wipeE env own) S)) ds [] (wipeE env0 own) S fun acc env S => k (.new acc) (backE env0 env own) S)
  []
  (fun _ _ he hr => he :: hr)
  (fun e he env S k => he env S fun rv env S => toD rv env S fun d env S => match d with
    | .lst xs => k xs env S
    | .tup xs => k xs env S
    | .scr => k (S.scr.map .int) env S
    | _ => none)
  (fun e he env S k => he env S (asInt fun i env S => if rgOk i then k (rangeD 0 i.toNat) env S else none))
  (fun a b ha hb env S k => ha env S (asInt fun i env S => hb env S (asInt fun j env S => if rgOk i && rgOk j then k (rangeD i (j - i).toNat) env S else none)))
  (fun e he env S k => he env S fun rv env S => toD rv env S fun d env S => match d with
    | .lst xs => k (enumD 0 xs) env S
    | _ => none)
  none
  (fun _ h => some h)
  x0
noncomputable def wlk (T : Tab) (x0 : It) : Env → Sta → KDs → Res := @It.rec (fun _ => EvF) (fun _ => List EvF) (fun _ => Env → Sta → KDs → Res) (fun _ => Option EvF)
  (fun i  env S k => match eget env i with
    | .val d => k (.val d) env S
    | .own _ => k (.bor i) env S
    | .none => none)
  (fun z  env S k => k (.val (.int z)) env S)
  (fun b  env S k => k (.val (.bl b)) env S)
  (fun env S k => k (.val .non) env S)
  (fun x  env S k => k (.val (.str x)) env S)
  (fun es hes env S k => evsL hes env S fun ds env S => Bool.rec (motive := fun _ => Res) none (k (.val (.tup ds)) env S) (Nat.ble ds.length LINE))
  (fun es hes env S k => evsL hes env S fun ds env S => Bool.rec (motive := fun _ => Res) none (k (.new ds) env S) (Nat.ble ds.length LINE))
  (fun op a b ha hb env S k => ha env S fun ra env S => hb env S fun rb env S => match ra.look env with
    | some x => match rb.look env with
      | some y => binK op x y fun rv => k rv env S
      | none => none
    | none => none)
  (fun a ha env S k => ha env S (asInt fun i env S => k (.val (.int (-i))) env S))
  (fun a ha env S k => ha env S (asBl fun b env S => k (.val (.bl (!b))) env S))
  (fun op a b ha hb env S k => ha env S fun ra env S => hb env S fun rb env S => match ra.look env with
    | some x => match rb.look env with
      | some y => cmpW op x y fun b => k (.val (.bl b)) env S
      | none => none
    | none => none)
  (fun op op' a b c ha hb hc env S k => ha env S (asInt fun x env S => hb env S (asInt fun y env S => andO (cmp op (.int x) (.int y)) fun b => selB b (hc env S (asInt fun z env S => giveBl k (cmp op' (.int y) (.int z)) env S)) (k (.val (.bl false)) env S))))
  (fun a b ha hb env S k => ha env S (asBl fun c env S => selB c (hb env S k) (k (.val (.bl false)) env S)))
  (fun a b ha hb env S k => ha env S (asBl fun c env S => selB c (k (.val (.bl true)) env S) (hb env S k)))
  (fun c a b hc ha hb env S k => hc env S (asBl fun c env S => selB c (ha env S k) (hb env S k)))
  (fun a i ha hi env S k => ha env S fun ra env S => hi env S fun ri env S => match ra.look env with
    | some x => match ri.look env with
      | some y => andO (item x y) fun d => k (.val d) env S
      | none => none
    | none => none)
  (fun a lo hi ha hlo hhi env S k => ha env S fun ra env S => evoL hlo env S fun l env S => evoL hhi env S fun h env S => match ra.look env with
    | some x => sliceR x l h fun rv => k rv env S
    | none => none)
  (fun a ha env S k => ha env S fun ra env S => match ra.look env with
    | some (.lst xs) => revR xs fun rv => k rv env S
    | some (.tup xs) => revT xs fun rv => k rv env S
    | _ => none)
  (fun f es hes env S k => evsL hes env S fun ds env S => match tget T f with
    | some (_, φ) => andO (φ ds S) fun p => k p.1 env p.2
    | none => none)
  (fun b a ha env S k => ha env S fun ra env S => match ra.look env with
    | some x => bi1R S b x fun rv => k rv env S
    | none => none)
  (fun b a c ha hc env S k => ha env S fun ra env S => hc env S fun rb env S => match ra.look env with
    | some x => match rb.look env with
      | some y => giveRV k (bi2 b x y) env S
      | none => none
    | none => none)
  (fun a f ha env S k => ha env S fun ra env S => match ra with
    | .val .src => match S.src with
      | some s => k (.val (s.get f)) env S
      | none => none
    | _ => none)
  (fun a ha env S k => ha env S fun ra env S => match ra with
    | .val .cells => match S.src with
      | some s => andO (lastI s.cells) fun p => k (.val (.int p.1)) env { S with src := some { s with cells := p.2 } }
      | none => none
    | _ => none)
  (fun a b c d ha hb hc hd env S k => ha env S fun ra env S => hb env S (asInt fun x env S => hc env S (asInt fun y env S => hd env S (asInt fun z env S => match ra with
    | .new ds => andO (intsOf ds) fun ns => match S.src with
        | none => k (.val .src) env { S with src := some ⟨ns, x, y, z⟩ }
        | some _ => none
    | _ => none))))
  (fun own elt tg it c helt hit hc env S k => hit env S fun ds env0 S => lcGo (fun x acc env S k => bind1 tg (.val x) env S fun env S =>
      evcL hc env S fun b env S => selB b (helt env S fun rv env S => toD rv env S fun d env S => if acc.length < LINE then k (acc ++ [d]) (wipeE env own) S else none)
        (k acc (wipeE env own) S)) ds [] (wipeE env0 own) S fun acc env S => k (.new acc) (backE env0 env own) S)
  []
  (fun _ _ he hr => he :: hr)
  (fun e he env S k => he env S fun rv env S => toD rv env S fun d env S => match d with
    | .lst xs => k xs env S
    | .tup xs => k xs env S
    | .scr => k (S.scr.map .int) env S
    | _ => none)
  (fun e he env S k => he env S (asInt fun i env S => if rgOk i then k (rangeD 0 i.toNat) env S else none))
  (fun a b ha hb env S k => ha env S (asInt fun i env S => hb env S (asInt fun j env S => if rgOk i && rgOk j then k (rangeD i (j - i).toNat) env S else none)))
  (fun e he env S k => he env S fun rv env S => toD rv env S fun d env S => match d with
    | .lst xs => k (enumD 0 xs) env S
    | _ => none)
  none
  (fun _ h => some h)
  x0
noncomputable def evO (T : Tab) (x0 : Option E) : Option EvF := @E.rec_1 (fun _ => EvF) (fun _ => List EvF) (fun _ => Env → Sta → KDs → Res) (fun _ => Option EvF)
  (fun i  env S k => match eget env i with
    | .val d => k (.val d) env S
    | .own _ => k (.bor i) env S
    | .none => none)
  (fun z  env S k => k (.val (.int z)) env S)
  (fun b  env S k => k (.val (.bl b)) env S)
  (fun env S k => k (.val .non) env S)
  (fun x  env S k => k (.val (.str x)) env S)
  (fun es hes env S k => evsL hes env S fun ds env S => Bool.rec (motive := fun _ => Res) none (k (.val (.tup ds)) env S) (Nat.ble ds.length LINE))
  (fun es hes env S k => evsL hes env S fun ds env S => Bool.rec (motive := fun _ => Res) none (k (.new ds) env S) (Nat.ble ds.length LINE))
  (fun op a b ha hb env S k => ha env S fun ra env S => hb env S fun rb env S => match ra.look env with
    | some x => match rb.look env with
      | some y => binK op x y fun rv => k rv env S
      | none => none
    | none => none)
  (fun a ha env S k => ha env S (asInt fun i env S => k (.val (.int (-i))) env S))
  (fun a ha env S k => ha env S (asBl fun b env S => k (.val (.bl (!b))) env S))
  (fun op a b ha hb env S k => ha env S fun ra env S => hb env S fun rb env S => match ra.look env with
    | some x => match rb.look env with
      | some y => cmpW op x y fun b => k (.val (.bl b)) env S
      | none => none
    | none => none)
  (fun op op' a b c ha hb hc env S k => ha env S (asInt fun x env S => hb env S (asInt fun y env S => andO (cmp op (.int x) (.int y)) fun b => selB b (hc env S (asInt fun z env S => giveBl k (cmp op' (.int y) (.int z)) env S)) (k (.val (.bl false)) env S))))
  (fun a b ha hb env S k => ha env S (asBl fun c env S => selB c (hb env S k) (k (.val (.bl false)) env S)))
  (fun a b ha hb env S k => ha env S (asBl fun c env S => selB c (k (.val (.bl true)) env S) (hb env S k)))
  (fun c a b hc ha hb env S k => hc env S (asBl fun c env S => selB c (ha env S k) (hb env S k)))
  (fun a i ha hi env S k => ha env S fun ra env S => hi env S fun ri env S => match ra.look env with
    | some x => match ri.look env with
      | some y => andO (item x y) fun d => k (.val d) env S
      | none => none
    | none => none)
  (fun a lo hi ha hlo hhi env S k => ha env S fun ra env S => evoL hlo env S fun l env S => evoL hhi env S fun h env S => match ra.look env with
    | some x => sliceR x l h fun rv => k rv env S
    | none => none)
  (fun a ha env S k => ha env S fun ra env S => match ra.look env with
    | some (.lst xs) => revR xs fun rv => k rv env S
    | some (.tup xs) => revT xs fun rv => k rv env S
    | _ => none)
  (fun f es hes env S k => evsL hes env S fun ds env S => match tget T f with
    | some (_, φ) => andO (φ ds S) fun p => k p.1 env p.2
    | none => none)
  (fun b a ha env S k => ha env S fun ra env S => match ra.look env with
    | some x => bi1R S b x fun rv => k rv env S
    | none => none)
  (fun b a c ha hc env S k => ha env S fun ra env S => hc env S fun rb env S => match ra.look env with
    | some x => match rb.look env with
      | some y => giveRV k (bi2 b x y) env S
      | none => none
    | none => none)
  (fun a f ha env S k => ha env S fun ra env S => match ra with
    | .val .src => match S.src with
      | some s => k (.val (s.get f)) env S
      | none => none
    | _ => none)
  (fun a ha env S k => ha env S fun ra env S => match ra with
    | .val .cells => match S.src with
      | some s => andO (lastI s.cells) fun p => k (.val (.int p.1)) env { S with src := some { s with cells := p.2 } }
      | none => none
    | _ => none)
  (fun a b c d ha hb hc hd env S k => ha env S fun ra env S => hb env S (asInt fun x env S => hc env S (asInt fun y env S => hd env S (asInt fun z env S => match ra with
    | .new ds => andO (intsOf ds) fun ns => match S.src with
        | none => k (.val .src) env { S with src := some ⟨ns, x, y, z⟩ }
        | some _ => none
    | _ => none))))
  (fun own elt tg it c helt hit hc env S k => hit env S fun ds env0 S => lcGo (fun x acc env S k => bind1 tg (.val x) env S fun env S =>
      evcL hc env S fun b env S => selB b (helt env S fun rv env S => toD rv env S fun d env S => if acc.length < LINE then k (acc ++ [d]) (wipeE env own) S else none)
        (k acc (wipeE env own) S)) ds [] (wipeE env0 own) S fun acc env S => k (.new acc) (backE env0 env own) S)
  []
  (fun _ _ he hr => he :: hr)
  (fun e he env S k => he env S fun rv env S => toD rv env S fun d env S => match d with
    | .lst xs => k xs env S
    | .tup xs => k xs env S
    | .scr => k (S.scr.map .int) env S
    | _ => none)
  (fun e he env S k => he env S (asInt fun i env S => if rgOk i then k (rangeD 0 i.toNat) env S else none))
  (fun a b ha hb env S k => ha env S (asInt fun i env S => hb env S (asInt fun j env S => if rgOk i && rgOk j then k (rangeD i (j - i).toNat) env S else none)))
  (fun e he env S k => he env S fun rv env S => toD rv env S fun d env S => match d with
    | .lst xs => k (enumD 0 xs) env S
    | _ => none)
  none
  (fun _ h => some h)
  x0
noncomputable def evs (T : Tab) (es : Es) : Env → Sta → KDs → Res := evsL (evl T es)
noncomputable def evr (T : Tab) (es : Es) : Env → Sta → (List RV → Env → Sta → Res) → Res := evrL (evl T es)
noncomputable def evo (T : Tab) (o : Option E) (env : Env) (S : Sta) (k : Option Int → Env → Sta → Res) : Res := evoL (evO T o) env S k
noncomputable def evc (T : Tab) (o : Option E) (env : Env) (S : Sta) (k : KB) : Res := evcL (evO T o) env S k
structure Kont where
  nx : KS
  rt : RV → Sta → Res
  bk : KS
  ct : KS
noncomputable def whlR (c : Env → Sta → KB → Res) (b : Env → Sta → KS → Res) (n : Nat) : Env → Sta → KS → Res :=
  Nat.rec (motive := fun _ => Env → Sta → KS → Res) (fun _ _ _ => none) (fun _ ih env S k => c env S fun t env S => match t with
    | true => b env S fun env S => ih env S k
    | false => k env S) n
@[irreducible] noncomputable def whl (c : Env → Sta → KB → Res) (b : Env → Sta → KS → Res) (n : Nat) (env : Env) (S : Sta) (k : KS) : Res := whlR c b n env S k
noncomputable def forR (b : D → Env → Sta → KS → Res) (l : List D) : Env → Sta → KS → Res :=
  List.rec (motive := fun _ => Env → Sta → KS → Res) (fun env S k => k env S) (fun x _ ih env S k => b x env S fun env S => ih env S k) l
@[irreducible] noncomputable def forGo (b : D → Env → Sta → KS → Res) (l : List D) (env : Env) (S : Sta) (k : KS) : Res := forR b l env S k
theorem whl_zero (c : Env → Sta → KB → Res) (b : Env → Sta → KS → Res) (env : Env) (S : Sta) (k : KS) : whl c b 0 env S k = none := by unfold whl; rfl
theorem whl_succ (c : Env → Sta → KB → Res) (b : Env → Sta → KS → Res) (n : Nat) (env : Env) (S : Sta) (k : KS) : whl c b (n + 1) env S k = c env S fun t env S => match t with
    | true => b env S fun env S => whl c b n env S k
    | false => k env S := by
  unfold whl; rfl
theorem forGo_nil (b : D → Env → Sta → KS → Res) (env : Env) (S : Sta) (k : KS) : forGo b [] env S k = k env S := by unfold forGo; rfl
theorem forGo_cons (b : D → Env → Sta → KS → Res) (x : D) (r : List D) (env : Env) (S : Sta) (k : KS) : forGo b (x :: r) env S k = b x env S fun env S => forGo b r env S k := by
  unfold forGo; rfl
/-- a value handed out of the def -/
noncomputable def outRV (rv : RV) (env : Env) : Option RV := match rv with
  | .bor i => match eget env i with
    | .own ds => some (.new ds)
    | .val d => some (.val d)
    | .none => none
  | rv => some rv
noncomputable def ex (T : Tab) (x0 : Sm) : Env → Sta → Kont → Res := @Sm.rec (fun _ => Env → Sta → Kont → Res) (fun _ => Env → Sta → Kont → Res)
  (fun tg e  env S K => ev T e env S fun rv env S => bind1 tg rv env S K.nx)
  (fun ts es  env S K => evr T es env S fun rvs env S => match bindRs ts rvs env with
    | some env => K.nx env S
    | none => none)
  (fun i e  env S K => match eget env i with
    | .own _ => ev T e env S fun rv env S => toD rv env S fun d env S => match eget env i with
      | .own ds => pushR ds d fun ds => K.nx (eput env i (.own ds)) S
      | _ => none
    | _ => none)
  (fun a f e  env S K => ev T e env S fun rv env S => toD rv env S fun d env S => ev T a env S fun ra env S => match ra with
    | .val .src => match S.src with
      | some s => match s.put f d with
        | some s' => K.nx env { S with src := some s' }
        | none => none
      | none => none
    | _ => none)
  (fun e  env S K => ev T e env S fun _ env S => K.nx env S)
  (fun e  env S K => ev T e env S fun rv env S => match outRV rv env with
    | some r => K.rt r S
    | none => none)
  (fun   env S K => K.rt (.val .non) S)
  (fun c a b ha hb env S K => ev T c env S (asBl fun t env S => selB t (ha env S K) (hb env S K)))
  (fun n c b hb env S K => whl (fun env S k => ev T c env S (asBl k)) (fun env S nx => hb env S { K with nx := nx, ct := nx, bk := K.nx }) n env S K.nx)
  (fun tg it b hb env S K => wlk T it env S fun ds env S => forGo (fun x env S nx => bind1 tg (.val x) env S fun env S => hb env S { K with nx := nx, ct := nx, bk := K.nx }) ds env S K.nx)
  (fun   env S K => K.nx env S)
  (fun   env S K => K.bk env S)
  (fun   env S K => K.ct env S)
  (fun   env S K => none)
  (fun env S K => K.nx env S)
  (fun _ _ hs hr env S K => hs env S { K with nx := fun env S => hr env S K })
  x0
noncomputable def exs (T : Tab) (x0 : List Sm) : Env → Sta → Kont → Res := @Sm.rec_1 (fun _ => Env → Sta → Kont → Res) (fun _ => Env → Sta → Kont → Res)
  (fun tg e  env S K => ev T e env S fun rv env S => bind1 tg rv env S K.nx)
  (fun ts es  env S K => evr T es env S fun rvs env S => match bindRs ts rvs env with
    | some env => K.nx env S
    | none => none)
  (fun i e  env S K => match eget env i with
    | .own _ => ev T e env S fun rv env S => toD rv env S fun d env S => match eget env i with
      | .own ds => pushR ds d fun ds => K.nx (eput env i (.own ds)) S
      | _ => none
    | _ => none)
  (fun a f e  env S K => ev T e env S fun rv env S => toD rv env S fun d env S => ev T a env S fun ra env S => match ra with
    | .val .src => match S.src with
      | some s => match s.put f d with
        | some s' => K.nx env { S with src := some s' }
        | none => none
      | none => none
    | _ => none)
  (fun e  env S K => ev T e env S fun _ env S => K.nx env S)
  (fun e  env S K => ev T e env S fun rv env S => match outRV rv env with
    | some r => K.rt r S
    | none => none)
  (fun   env S K => K.rt (.val .non) S)
  (fun c a b ha hb env S K => ev T c env S (asBl fun t env S => selB t (ha env S K) (hb env S K)))
  (fun n c b hb env S K => whl (fun env S k => ev T c env S (asBl k)) (fun env S nx => hb env S { K with nx := nx, ct := nx, bk := K.nx }) n env S K.nx)
  (fun tg it b hb env S K => wlk T it env S fun ds env S => forGo (fun x env S nx => bind1 tg (.val x) env S fun env S => hb env S { K with nx := nx, ct := nx, bk := K.nx }) ds env S K.nx)
  (fun   env S K => K.nx env S)
  (fun   env S K => K.bk env S)
  (fun   env S K => K.ct env S)
  (fun   env S K => none)
  (fun env S K => K.nx env S)
  (fun _ _ hs hr env S K => hs env S { K with nx := fun env S => hr env S K })
  x0
noncomputable def initE : Nat → List D → Env
  | n, d :: ds => .val d :: initE (n - 1) ds
  | n, [] => List.replicate n .none
/-- a def: n its names -/
noncomputable def fnOf (T : Tab) (n : Nat) (ps : Nat) (b : List Sm) : Fn := fun ds S =>
  if ds.length = ps then exs T b (initE n ds) S ⟨fun _ S => some (.val .non, S), fun rv S => some (rv, S), fun _ _ => none, fun _ _ => none⟩ else none
end Iv
end

section
set_option Elab.async false
set_option linter.all false
set_option maxRecDepth 100000
namespace Iv
open PySem L2

/-! ### data in the heap -/
/-- F: lists that are shared from now on, never written; sc: the source's dict and its list; sa: the script -/
structure Gh where
  F : Addr → Prop
  sc : Option (Addr × Addr)
  sa : Addr
def SrcA (g : Gh) (a : Addr) : Prop := ∃ p, g.sc = some p ∧ (a = p.1 ∨ a = p.2)
mutual
inductive Rep (K : PySem.W.Frag) (g : Gh) (H : Hp) : V → D → Prop
  | non : Rep K g H .non .non
  | bl (b : Bool) : Rep K g H (.bl b) (.bl b)
  | int (i : Int) : Rep K g H (.int i) (.int i)
  | str (x : Str) : Rep K g H (.str x) (.str x)
  | lst {a : Addr} {xs : List V} {ds : List D} : g.F a → H a = some (.lst xs) → Reps K g H xs ds → Rep K g H (.ref a) (.lst ds)
  | tup {a : Addr} {xs : List V} {ds : List D} : SqT K H a xs → Reps K g H xs ds → Rep K g H (.ref a) (.tup ds)
  | src {a c : Addr} : g.sc = some (a, c) → Rep K g H (.ref a) .src
  | cells {a c : Addr} : g.sc = some (a, c) → Rep K g H (.ref c) .cells
  | scr : Rep K g H (.ref g.sa) .scr
  | rep {d : D} : Rep K g H (.str d.py.shown) (.rep d)
inductive Reps (K : PySem.W.Frag) (g : Gh) (H : Hp) : List V → List D → Prop
  | nil : Reps K g H [] []
  | cons {v : V} {vs : List V} {d : D} {ds : List D} : Rep K g H v d → Reps K g H vs ds → Reps K g H (v :: vs) (d :: ds)
end
def srcK (c : Addr) (s : Src) : List (Key × V) := [(.inr "cells", .ref c), (.inr "left", .int s.left), (.inr "mixed", .int s.mixed), (.inr "turn", .int s.turn)]
structure GhOk (K : PySem.W.Frag) (g : Gh) (S : Sta) (H : Hp) : Prop where
  fr : ∀ a, g.F a → H a ≠ none
  fs : ∀ a, g.F a → ¬ SrcA g a
  no : S.src = none → g.sc = none
  so : ∀ s, S.src = some s → ∃ a c, g.sc = some (a, c) ∧ a ≠ c ∧ H a = some (.dK (srcK c s)) ∧ H c = some (.lst (s.cells.map V.int))
  scr : (∃ o, H g.sa = some (.frz o (.lst (S.scr.map V.int)))) ∨ ∀ H', SqL K H' g.sa (S.scr.map V.int)
/-- what a slot owns -/
def OwnA (env : Env) (σ : St) (a : Addr) : Prop := ∃ i ds, eget env i = .own ds ∧ σ[i]? = some (some (.ref a))
structure IOk (K : PySem.W.Frag) (g : Gh) (env : Env) (S : Sta) (σ : St) (H : Hp) : Prop where
  len : env.length = σ.length
  val : ∀ i d, eget env i = .val d → ∃ v, σ[i]? = some (some v) ∧ Rep K g H v d
  own : ∀ i ds, eget env i = .own ds → ∃ a xs, σ[i]? = some (some (.ref a)) ∧ ¬ g.F a ∧ ¬ SrcA g a ∧ H a = some (.lst xs) ∧ Reps K g H xs ds
  dis : ∀ i j ds es a, eget env i = .own ds → eget env j = .own es → σ[i]? = some (some (.ref a)) → σ[j]? = some (some (.ref a)) → i = j
  gh : GhOk K g S H
structure Step (g : Gh) (O : Addr → Prop) (H : Hp) (g' : Gh) (O' : Addr → Prop) (H' : Hp) : Prop where
  F : ∀ a, g.F a → g'.F a
  nF : ∀ a, g'.F a → g.F a ∨ H a = none ∨ O a
  sc : ∀ p, g.sc = some p → g'.sc = some p
  nsc : ∀ p, g'.sc = some p → g.sc = some p ∨ (H p.1 = none ∧ H p.2 = none)
  sa : g'.sa = g.sa
  keep : ∀ b o, H b = some o → ¬ O b → ¬ SrcA g b → H' b = some o
  tup : ∀ b xs, H b = some (.tup xs) → H' b = some (.tup xs)
  frz : ∀ b o u, H b = some (.frz o u) → H' b = some (.frz o u)
  there : ∀ b, H b ≠ none → H' b ≠ none
  nO : ∀ a, O' a → O a ∨ H a = none
section
variable {K : PySem.W.Frag} {g g1 g2 : Gh} {O O1 O2 : Addr → Prop} {H H1 H2 : Hp} {env : Env} {S : Sta} {σ : St}
theorem Step.refl : Step g O H g O H :=
  ⟨fun _ h => h, fun _ h => .inl h, fun _ h => h, fun _ h => .inl h, rfl, fun _ _ h _ _ => h, fun _ _ h => h, fun _ _ _ h => h, fun _ h => h, fun _ h => .inl h⟩
theorem Step.fresh (s : Step g O H g1 O1 H1) {a : Addr} (h : H1 a = none) : H a = none := by
  cases e : H a with
  | none => rfl
  | some o => exact absurd h (s.there a (by rw [e]; simp))
theorem Step.trans (s : Step g O H g1 O1 H1) (t : Step g1 O1 H1 g2 O2 H2) : Step g O H g2 O2 H2 where
  F := fun a h => t.F a (s.F a h)
  nF := fun a h => by
    rcases t.nF a h with h | h | h
    · exact s.nF a h
    · exact .inr (.inl (s.fresh h))
    · rcases s.nO a h with h | h
      · exact .inr (.inr h)
      · exact .inr (.inl h)
  sc := fun p h => t.sc p (s.sc p h)
  nsc := fun p h => by
    rcases t.nsc p h with h | ⟨h, h'⟩
    · exact s.nsc p h
    · exact .inr ⟨s.fresh h, s.fresh h'⟩
  sa := t.sa.trans s.sa
  keep := fun b o h n m => by
    refine t.keep b o (s.keep b o h n m) (fun q => ?_) fun ⟨p, e, q⟩ => ?_
    · rcases s.nO b q with z | z
      · exact n z
      · rw [h] at z; cases z
    · rcases s.nsc p e with z | ⟨z1, z2⟩
      · exact m ⟨p, z, q⟩
      · rcases q with rfl | rfl
        · rw [h] at z1; cases z1
        · rw [h] at z2; cases z2
  tup := fun b xs h => t.tup b xs (s.tup b xs h)
  frz := fun b o u h => t.frz b o u (s.frz b o u h)
  there := fun b h => t.there b (s.there b h)
  nO := fun a h => by
    rcases t.nO a h with h | h
    · exact s.nO a h
    · exact .inr (s.fresh h)
theorem Step.srcA (s : Step g O H g1 O1 H1) {a : Addr} {o : HO} (h : H a = some o) (n : ¬ SrcA g a) : ¬ SrcA g1 a := fun ⟨p, e, q⟩ => by
  rcases s.nsc p e with z | ⟨z1, z2⟩
  · exact n ⟨p, z, q⟩
  · rcases q with rfl | rfl
    · rw [h] at z1; cases z1
    · rw [h] at z2; cases z2
theorem Step.seqT (s : Step g O H g1 O1 H1) {a : Addr} {xs : List V} (h : SqT K H a xs) : SqT K H1 a xs := by
  rcases h with (h | ⟨o, h⟩) | h
  · exact .inl (.inl (s.tup _ _ h))
  · exact .inl (.inr ⟨o, s.frz _ _ _ h⟩)
  · exact .inr h
mutual
theorem Rep.step (s : Step g O H g1 O1 H1) (hO : ∀ a, g.F a → ¬ O a ∧ ¬ SrcA g a) : ∀ {v : V} {d : D}, Rep K g H v d → Rep K g1 H1 v d
  | _, _, .non => .non
  | _, _, .bl b => .bl b
  | _, _, .int i => .int i
  | _, _, .str x => .str x
  | _, _, .lst h1 h2 h3 => .lst (s.F _ h1) (s.keep _ _ h2 (hO _ h1).1 (hO _ h1).2) (Reps.step s hO h3)
  | _, _, .tup h1 h2 => .tup (s.seqT h1) (Reps.step s hO h2)
  | _, _, .src h => .src (s.sc _ h)
  | _, _, .cells h => .cells (s.sc _ h)
  | _, _, .scr => by
    have e := s.sa
    rw [← e]
    exact .scr
  | _, _, .rep => .rep
theorem Reps.step (s : Step g O H g1 O1 H1) (hO : ∀ a, g.F a → ¬ O a ∧ ¬ SrcA g a) : ∀ {vs : List V} {ds : List D}, Reps K g H vs ds → Reps K g1 H1 vs ds
  | _, _, .nil => .nil
  | _, _, .cons h r => .cons (Rep.step s hO h) (Reps.step s hO r)
end
theorem Reps.length : ∀ {vs : List V} {ds : List D}, Reps K g H vs ds → vs.length = ds.length
  | _, _, .nil => rfl
  | _, _, .cons _ r => by rw [List.length_cons, List.length_cons, Reps.length r]
theorem Reps.get : ∀ {vs : List V} {ds : List D} {i : Nat} {v : V}, Reps K g H vs ds → vs[i]? = some v → ∃ d, ds[i]? = some d ∧ Rep K g H v d
  | _, _, _, _, .nil, e => by simp at e
  | _, _, 0, _, .cons h _, e => by simp at e; subst e; exact ⟨_, rfl, h⟩
  | _, _, i + 1, v, .cons _ r, e => by
    obtain ⟨d, h1, h2⟩ := Reps.get (i := i) (v := v) r (by simpa using e)
    exact ⟨d, by simpa using h1, h2⟩
theorem Reps.getD : ∀ {vs : List V} {ds : List D} {i : Nat} {d : D}, Reps K g H vs ds → ds[i]? = some d → ∃ v, vs[i]? = some v ∧ Rep K g H v d
  | _, _, _, _, .nil, e => by simp at e
  | _, _, 0, _, .cons h _, e => by simp at e; subst e; exact ⟨_, rfl, h⟩
  | _, _, i + 1, v, .cons _ r, e => by
    obtain ⟨d, h1, h2⟩ := Reps.getD (i := i) (d := v) r (by simpa using e)
    exact ⟨d, by simpa using h1, h2⟩
theorem Reps.append : ∀ {vs ws : List V} {ds es : List D}, Reps K g H vs ds → Reps K g H ws es → Reps K g H (vs ++ ws) (ds ++ es)
  | _, _, _, _, .nil, s => s
  | _, _, _, _, .cons h r, s => .cons h (Reps.append r s)
theorem Reps.take : ∀ {vs : List V} {ds : List D} (n : Nat), Reps K g H vs ds → Reps K g H (vs.take n) (ds.take n)
  | _, _, 0, _ => .nil
  | _, _, _ + 1, .nil => .nil
  | _, _, n + 1, .cons h r => .cons h (Reps.take n r)
theorem Reps.drop : ∀ {vs : List V} {ds : List D} (n : Nat), Reps K g H vs ds → Reps K g H (vs.drop n) (ds.drop n)
  | _, _, 0, r => r
  | _, _, _ + 1, .nil => .nil
  | _, _, n + 1, .cons _ r => Reps.drop n r
theorem Reps.reverse : ∀ {vs : List V} {ds : List D}, Reps K g H vs ds → Reps K g H vs.reverse ds.reverse
  | _, _, .nil => .nil
  | _, _, .cons h r => by
    rw [List.reverse_cons, List.reverse_cons]
    exact Reps.append (Reps.reverse r) (.cons h .nil)
theorem Reps.ints : ∀ {vs : List V} {ds : List D} {ns : List Int}, Reps K g H vs ds → intsOf ds = some ns → vs = ns.map V.int
  | _, _, _, .nil, e => by
    simp [intsOf] at e; subst e; rfl
  | _, _, _, .cons h r, e => by
    cases h with
    | int i =>
      simp only [intsOf, Option.map_eq_some_iff] at e
      obtain ⟨q, e1, e2⟩ := e
      subst e2
      rw [Reps.ints r e1]; rfl
    | _ => simp [intsOf] at e
theorem Reps.bools : ∀ {vs : List V} {ds : List D} {bs : List Bool}, Reps K g H vs ds → boolsOf ds = some bs → vs = bs.map V.bl
  | _, _, _, .nil, e => by
    simp [boolsOf] at e; subst e; rfl
  | _, _, _, .cons h r, e => by
    cases h with
    | bl i =>
      simp only [boolsOf, Option.map_eq_some_iff] at e
      obtain ⟨q, e1, e2⟩ := e
      subst e2
      rw [Reps.bools r e1]; rfl
    | _ => simp [boolsOf] at e
theorem Reps.ofInts : ∀ ns : List Int, Reps K g H (ns.map V.int) (ns.map D.int)
  | [] => .nil
  | i :: r => .cons (.int i) (Reps.ofInts r)
theorem nth_eq : ∀ (xs : List D) (i : Nat), nth xs i = xs[i]?
  | [], _ => rfl
  | _ :: _, 0 => rfl
  | _ :: r, i + 1 => by
    show nth r i = _
    rw [nth_eq r i]; simp
mutual
theorem Rep.dp : ∀ {n : Nat} {v : V} {d : D}, Rep K g H v d → fit n d = true → Dp K H v d.py
  | _, _, _, .non, _ => .non
  | _, _, _, .bl b, _ => .bl b
  | _, _, _, .int i, _ => .int i
  | _, _, _, .str x, _ => .str x
  | 0, _, _, .lst _ _ _, f => by simp [fit] at f
  | n + 1, _, _, .lst _ h2 h3, f => by
    rw [D.py]
    exact .lst (SqL.of h2) (Reps.dp h3 (by simpa [fit] using f))
  | 0, _, _, .tup _ _, f => by simp [fit] at f
  | n + 1, _, _, .tup h1 h2, f => by
    rw [D.py]
    exact .tup h1 (Reps.dp h2 (by simpa [fit] using f))
  | _, _, _, .src _, f => by simp [fit] at f
  | _, _, _, .cells _, f => by simp [fit] at f
  | _, _, _, .scr, f => by simp [fit] at f
  | _, _, _, .rep, f => by simp [fit] at f
theorem Reps.dp : ∀ {n : Nat} {vs : List V} {ds : List D}, Reps K g H vs ds → fits n ds = true → DpAll K H vs (pys ds)
  | _, _, _, .nil, _ => by rw [pys]; exact .nil
  | n, _, _, .cons h r, f => by
    rw [pys]
    simp only [fits, Bool.and_eq_true] at f
    exact .cons (Rep.dp h f.1) (Reps.dp r f.2)
end
mutual
theorem fit_plain : ∀ (n : Nat) (d : D), fit n d = true → d.py.plain = true ∧ d.py.depth ≤ n
  | _, .non, _ => ⟨rfl, Nat.zero_le _⟩
  | _, .bl _, _ => ⟨rfl, Nat.zero_le _⟩
  | _, .int _, _ => ⟨rfl, Nat.zero_le _⟩
  | _, .str _, _ => ⟨rfl, Nat.zero_le _⟩
  | 0, .lst _, f => by simp [fit] at f
  | n + 1, .lst xs, f => by
    obtain ⟨a, b⟩ := fits_plain n xs (by simpa [fit] using f)
    rw [D.py, PyData.plain, PyData.depth]
    exact ⟨a, by omega⟩
  | 0, .tup _, f => by simp [fit] at f
  | n + 1, .tup xs, f => by
    obtain ⟨a, b⟩ := fits_plain n xs (by simpa [fit] using f)
    rw [D.py, PyData.plain, PyData.depth]
    exact ⟨a, by omega⟩
  | _, .src, f => by simp [fit] at f
  | _, .cells, f => by simp [fit] at f
  | _, .scr, f => by simp [fit] at f
  | _, .rep _, f => by simp [fit] at f
theorem fits_plain : ∀ (n : Nat) (ds : List D), fits n ds = true → PyData.plainAll (pys ds) = true ∧ PyData.depthAll (pys ds) ≤ n
  | _, [], _ => by
    rw [pys, PyData.plainAll, PyData.depthAll]
    exact ⟨rfl, Nat.zero_le _⟩
  | n, x :: r, f => by
    simp only [fits, Bool.and_eq_true] at f
    obtain ⟨a, b⟩ := fit_plain n x f.1
    obtain ⟨c, d⟩ := fits_plain n r f.2
    rw [pys, PyData.plainAll, PyData.depthAll]
    exact ⟨by rw [a, c]; rfl, by omega⟩
end

/-! ### slots -/
theorem eget_lt : ∀ {env : Env} {i : Nat}, eget env i ≠ .none → i < env.length
  | [], _, h => absurd rfl h
  | _ :: _, 0, _ => by simp
  | _ :: r, i + 1, h => by
    have := eget_lt (env := r) (i := i) h
    simp; omega
theorem eput_len : ∀ (env : Env) (i : Nat) (x : Slot), (eput env i x).length = env.length
  | [], _, _ => rfl
  | _ :: _, 0, _ => rfl
  | _ :: r, i + 1, x => by
    show (_ :: eput r i x).length = _
    simp [eput_len r i x]
theorem eget_eput : ∀ (env : Env) (i j : Nat) (x : Slot), eget (eput env i x) j = if j = i ∧ i < env.length then x else eget env j
  | [], i, j, x => by rw [if_neg (by simp)]; rfl
  | s :: r, 0, 0, x => by rw [if_pos (by simp)]; rfl
  | s :: r, 0, j + 1, x => by rw [if_neg (by omega)]; rfl
  | s :: r, i + 1, 0, x => by rw [if_neg (by omega)]; rfl
  | s :: r, i + 1, j + 1, x => by
    show eget (eput r i x) j = if j + 1 = i + 1 ∧ i + 1 < (s :: r).length then x else eget r j
    rw [eget_eput r i j x]
    by_cases h : j = i ∧ i < r.length
    · rw [if_pos h, if_pos (by rw [List.length_cons]; omega)]
    · rw [if_neg h, if_neg (by rw [List.length_cons]; omega)]
theorem eget_put_same {env : Env} {i : Nat} {x : Slot} (h : i < env.length) : eget (eput env i x) i = x := by
  rw [eget_eput, if_pos ⟨rfl, h⟩]
theorem eget_put_ne {env : Env} {i j : Nat} {x : Slot} (h : j ≠ i) : eget (eput env i x) j = eget env j := by
  rw [eget_eput, if_neg fun z => h z.1]

/-! ### results -/
def RVR (K : PySem.W.Frag) (g : Gh) (O : Addr → Prop) (σ : St) (H : Hp) (v : V) : RV → Prop
  | .val d => Rep K g H v d
  | .new ds => ∃ a xs, v = .ref a ∧ ¬ g.F a ∧ ¬ SrcA g a ∧ ¬ O a ∧ H a = some (.lst xs) ∧ Reps K g H xs ds
  | .bor i => σ[i]? = some (some v)
theorem IOk.FO (I : IOk K g env S σ H) : ∀ a, g.F a → ¬ OwnA env σ a ∧ ¬ SrcA g a := fun a h => ⟨fun ⟨i, ds, e1, e2⟩ => by
  obtain ⟨b, xs, h1, h2, _⟩ := I.own i ds e1
  rw [e2] at h1; cases h1
  exact h2 h, I.gh.fs a h⟩
theorem IOk.OS (I : IOk K g env S σ H) : ∀ a, OwnA env σ a → ¬ SrcA g a ∧ ¬ g.F a ∧ ∃ xs, H a = some (.lst xs) := fun a ⟨i, ds, e1, e2⟩ => by
  obtain ⟨b, xs, h1, h2, h3, h4, _⟩ := I.own i ds e1
  rw [e2] at h1; cases h1
  exact ⟨h3, h2, xs, h4⟩
theorem RVR.step (s : Step g O H g1 O1 H1) (hO : ∀ a, g.F a → ¬ O a ∧ ¬ SrcA g a) {v : V} : ∀ {rv : RV}, RVR K g O σ H v rv → RVR K g1 O1 σ H1 v rv
  | .val _, h => Rep.step s hO h
  | .new _, h => by
    obtain ⟨a, xs, e, h1, h2, h3, h4, h5⟩ := h
    refine ⟨a, xs, e, fun z => ?_, s.srcA h4 h2, fun z => ?_, s.keep a _ h4 h3 h2, Reps.step s hO h5⟩
    · rcases s.nF a z with z | z | z
      · exact h1 z
      · rw [h4] at z; cases z
      · exact h3 z
    · rcases s.nO a z with z | z
      · exact h3 z
      · rw [h4] at z; cases z
  | .bor _, h => h
/-- data that may be read now -/
def PRep (K : PySem.W.Frag) (g : Gh) (H : Hp) (v : V) (d : D) : Prop := Rep K g H v d ∨ ∃ a xs ds, v = .ref a ∧ d = .lst ds ∧ H a = some (.lst xs) ∧ Reps K g H xs ds
theorem look_prep (I : IOk K g env S σ H) {v : V} {rv : RV} {d : D} (h : RVR K g O σ H v rv) (e : rv.look env = some d) : PRep K g H v d := by
  cases rv with
  | val d' =>
    simp only [RV.look, Option.some.injEq] at e
    subst e
    exact .inl h
  | new ds =>
    simp only [RV.look, Option.some.injEq] at e
    subst e
    obtain ⟨a, xs, e, h1, h2, h3, h4, h5⟩ := h
    exact .inr ⟨a, xs, ds, e, rfl, h4, h5⟩
  | bor i =>
    have h : σ[i]? = some (some v) := h
    simp only [RV.look] at e
    split at e
    · rename_i ds q
      cases e
      obtain ⟨a, xs, h1, h2, h3, h4, h5⟩ := I.own i ds q
      rw [h] at h1; cases h1
      exact .inr ⟨a, xs, ds, rfl, rfl, h4, h5⟩
    · rename_i d' q
      cases e
      obtain ⟨v', h1, h2⟩ := I.val i d q
      rw [h] at h1; cases h1
      exact .inl h2
    · cases e
theorem PRep.dp {n : Nat} {v : V} {d : D} (h : PRep K g H v d) (f : fit n d = true) : Dp K H v d.py := by
  rcases h with h | ⟨a, xs, ds, rfl, rfl, h1, h2⟩
  · exact h.dp f
  · cases n with
    | zero => simp [fit] at f
    | succ n =>
      rw [D.py]
      exact .lst (SqL.of h1) (Reps.dp h2 (by simpa [fit] using f))

/-! ### one more shared list -/
def Gh.and (g : Gh) (a : Addr) : Gh := { g with F := fun b => g.F b ∨ b = a }
theorem step_and {a : Addr} (h : O a ∨ H a = none) (hO1 : ∀ b, O1 b → O b) : Step g O H (g.and a) O1 H :=
  ⟨fun _ h => .inl h, fun b z => by
    rcases z with z | rfl
    · exact .inl z
    · exact .inr h.symm, fun _ h => h, fun _ h => .inl h, rfl, fun _ _ h _ _ => h, fun _ _ h => h, fun _ _ _ h => h, fun _ h => h, fun b z => .inl (hO1 b z)⟩
/-! ### steps -/
theorem Step.shrink {O3 : Addr → Prop} (s : Step g O H g1 O1 H1) (h : ∀ a, O3 a → O1 a) : Step g O H g1 O3 H1 :=
  ⟨s.F, s.nF, s.sc, s.nsc, s.sa, s.keep, s.tup, s.frz, s.there, fun a q => s.nO a (h a q)⟩
theorem Step.frame (P : Addr → Prop) (s : Step g O H g1 O1 H1) : Step g (fun a => O a ∨ P a) H g1 (fun a => O1 a ∨ P a) H1 :=
  ⟨s.F, fun a h => by
    rcases s.nF a h with h | h | h
    · exact .inl h
    · exact .inr (.inl h)
    · exact .inr (.inr (.inl h)), s.sc, s.nsc, s.sa, fun b o h n m => s.keep b o h (fun z => n (.inl z)) m, s.tup, s.frz, s.there, fun a h => by
    rcases h with h | h
    · rcases s.nO a h with h | h
      · exact .inl (.inl h)
      · exact .inr h
    · exact .inl (.inr h)⟩
/-- a step that owns less may be taken as one that owns more -/
theorem Step.widen {P : Addr → Prop} (s : Step g O H g1 O1 H1) (h : ∀ a, O a → P a) : Step g P H g1 O1 H1 :=
  ⟨s.F, fun a q => by
    rcases s.nF a q with q | q | q
    · exact .inl q
    · exact .inr (.inl q)
    · exact .inr (.inr (h a q)), s.sc, s.nsc, s.sa, fun b o e n m => s.keep b o e (fun z => n (h b z)) m, s.tup, s.frz, s.there, fun a q => by
    rcases s.nO a q with q | q
    · exact .inl (h a q)
    · exact .inr q⟩
theorem step_alloc {p : Addr} {o : HO} (hp : H p = none) : Step g O H g (fun a => O a ∨ a = p) (upd H p o) :=
  ⟨fun _ h => h, fun _ h => .inl h, fun _ h => h, fun _ h => .inl h, rfl, fun b u h _ _ => by rw [upd_ne (ne_of_none h hp)]; exact h, fun b u h => by rw [upd_ne (ne_of_none h hp)]; exact h,
    fun b u w h => by rw [upd_ne (ne_of_none h hp)]; exact h, fun b h => by
      by_cases e : b = p
      · subst e; exact absurd hp h
      · rw [upd_ne e]; exact h, fun a h => by
      rcases h with h | rfl
      · exact .inl h
      · exact .inr hp⟩
mutual
theorem Rep.mono (hF : ∀ a, g.F a → g1.F a) (hs : ∀ p, g.sc = some p → g1.sc = some p) (ha : g1.sa = g.sa) : ∀ {v : V} {d : D}, Rep K g H v d → Rep K g1 H v d
  | _, _, .non => .non
  | _, _, .bl b => .bl b
  | _, _, .int i => .int i
  | _, _, .str x => .str x
  | _, _, .lst h1 h2 h3 => .lst (hF _ h1) h2 (Reps.mono hF hs ha h3)
  | _, _, .tup h1 h2 => .tup h1 (Reps.mono hF hs ha h2)
  | _, _, .src h => .src (hs _ h)
  | _, _, .cells h => .cells (hs _ h)
  | _, _, .scr => by
    rw [← ha]
    exact .scr
  | _, _, .rep => .rep
theorem Reps.mono (hF : ∀ a, g.F a → g1.F a) (hs : ∀ p, g.sc = some p → g1.sc = some p) (ha : g1.sa = g.sa) : ∀ {vs : List V} {ds : List D}, Reps K g H vs ds → Reps K g1 H vs ds
  | _, _, .nil => .nil
  | _, _, .cons h r => .cons (Rep.mono hF hs ha h) (Reps.mono hF hs ha r)
end
/-- tracked things stay: a GhOk is kept where its own objects are -/
theorem GhOk.step {S : Sta} (G : GhOk K g S H) (s : Step g O H g O1 H1) (h : ∀ a, SrcA g a → H1 a = H a) : GhOk K g S H1 where
  fr := fun a q => s.there a (G.fr a q)
  fs := G.fs
  no := G.no
  so := fun x e => by
    obtain ⟨a, c, h1, h2, h3, h4⟩ := G.so x e
    exact ⟨a, c, h1, h2, (h a ⟨_, h1, .inl rfl⟩).trans h3, (h c ⟨_, h1, .inr rfl⟩).trans h4⟩
  scr := by
    rcases G.scr with ⟨o, q⟩ | q
    · exact .inl ⟨o, s.frz _ _ _ q⟩
    · exact .inr q
theorem GhOk.seq {S : Sta} (G : GhOk K g S H) : SqL K H g.sa (S.scr.map V.int) := by
  rcases G.scr with ⟨o, q⟩ | q
  · exact .inl (.inr ⟨o, q⟩)
  · exact q H
theorem GhOk.srcA {S : Sta} (G : GhOk K g S H) {a : Addr} (h : SrcA g a) : ∃ o, H a = some o := by
  obtain ⟨p, e, q⟩ := h
  cases hs : S.src with
  | none => rw [G.no hs] at e; cases e
  | some x =>
    obtain ⟨b, c, h1, _, h3, h4⟩ := G.so x hs
    rw [e] at h1; cases h1
    rcases q with rfl | rfl
    · exact ⟨_, h3⟩
    · exact ⟨_, h4⟩
theorem GhOk.alloc {S : Sta} (G : GhOk K g S H) {p : Addr} {o : HO} (hp : H p = none) : GhOk K g S (upd H p o) :=
  G.step (O := fun _ => False) (step_alloc hp) fun a h => by
    obtain ⟨u, e⟩ := G.srcA h
    exact upd_ne (ne_of_none e hp)
/-- the slots are kept by a step that owns none of them -/
theorem IOk.step {S' : Sta} (I : IOk K g env S σ H) (s : Step g (fun _ => False) H g1 O1 H1) (G : GhOk K g1 S' H1) : IOk K g1 env S' σ H1 where
  len := I.len
  val := fun i d e => by
    obtain ⟨v, h1, h2⟩ := I.val i d e
    exact ⟨v, h1, h2.step s fun a h => ⟨fun z => z, I.gh.fs a h⟩⟩
  own := fun i ds e => by
    obtain ⟨a, xs, h1, h2, h3, h4, h5⟩ := I.own i ds e
    refine ⟨a, xs, h1, fun z => ?_, s.srcA h4 h3, s.keep a _ h4 (fun z => z) h3, h5.step s fun a h => ⟨fun z => z, I.gh.fs a h⟩⟩
    rcases s.nF a z with z | z | z
    · exact h2 z
    · rw [h4] at z; cases z
    · exact z
  dis := I.dis
  gh := G
theorem IOk.alloc (I : IOk K g env S σ H) {p : Addr} {o : HO} (hp : H p = none) : IOk K g env S σ (upd H p o) :=
  I.step (step_alloc hp) (I.gh.alloc hp)
theorem IOk.notO (I : IOk K g env S σ H) {p : Addr} (hp : H p = none) : ¬ OwnA env σ p := fun h => by
  obtain ⟨_, _, xs, e⟩ := I.OS p h
  rw [hp] at e; cases e
theorem IOk.notF (I : IOk K g env S σ H) {p : Addr} (hp : H p = none) : ¬ g.F p := fun h => I.gh.fr p h hp
theorem GhOk.notS {S : Sta} (G : GhOk K g S H) {p : Addr} (hp : H p = none) : ¬ SrcA g p := fun h => by
  obtain ⟨o, e⟩ := G.srcA h
  rw [hp] at e; cases e

/-- the address of a new list that a value holds -/
def NewA (v : V) (rv : RV) (a : Addr) : Prop := (∃ ds, rv = .new ds) ∧ v = .ref a
theorem newA_val {v : V} {d : D} {a : Addr} : ¬ NewA v (.val d) a := fun h => by
  obtain ⟨⟨_, e⟩, _⟩ := h
  cases e
theorem newA_bor {v : V} {i : Nat} {a : Addr} : ¬ NewA v (.bor i) a := fun h => by
  obtain ⟨⟨_, e⟩, _⟩ := h
  cases e
/-- behind an expression -/
structure After (K : PySem.W.Frag) (g : Gh) (env : Env) (σ : St) (H : Hp) (v : V) (ra : RV) (g1 : Gh) (env1 : Env) (S1 : Sta) (H1 : Hp) : Prop where
  st : Step g (OwnA env σ) H g1 (fun a => OwnA env1 σ a ∨ NewA v ra a) H1
  ok : IOk K g1 env1 S1 σ H1
  rv : RVR K g1 (OwnA env1 σ) σ H1 v ra
  nw : ∀ a, NewA v ra a → H a = none
structure AftD (K : PySem.W.Frag) (g : Gh) (env : Env) (σ : St) (H : Hp) (v : V) (d : D) (g1 : Gh) (env1 : Env) (S1 : Sta) (H1 : Hp) : Prop where
  st : Step g (OwnA env σ) H g1 (OwnA env1 σ) H1
  ok : IOk K g1 env1 S1 σ H1
  rep : Rep K g1 H1 v d
theorem own_put {i j : Nat} {x : Slot} {ds : List D} (hx : ∀ es, x ≠ .own es) (h : eget (eput env i x) j = .own ds) : eget env j = .own ds := by
  rw [eget_eput] at h
  split at h
  · exact absurd h (hx ds)
  · exact h
theorem OwnA.put {i : Nat} {x : Slot} (hx : ∀ es, x ≠ .own es) {a : Addr} (h : OwnA (eput env i x) σ a) : OwnA env σ a := by
  obtain ⟨j, ds, e1, e2⟩ := h
  exact ⟨j, ds, own_put hx e1, e2⟩
theorem gh_and {S : Sta} (G : GhOk K g S H) {a : Addr} {o : HO} (h : H a = some o) (n : ¬ SrcA g a) : GhOk K (g.and a) S H where
  fr := fun b q => by
    rcases q with q | rfl
    · exact G.fr b q
    · rw [h]; simp
  fs := fun b q => by
    rcases q with q | rfl
    · exact G.fs b q
    · exact n
  no := G.no
  so := G.so
  scr := G.scr
/-- a list is shared from now on -/
theorem froz_ok (I : IOk K g env S σ H) {v : V} {rv : RV} {d : D} (h : RVR K g (OwnA env σ) σ H v rv) (e : rv.look env = some d) :
    ∃ g', Step g (fun a => OwnA env σ a ∨ NewA v rv a) H g' (OwnA (rv.froz env) σ) H ∧ IOk K g' (rv.froz env) S σ H ∧ Rep K g' H v d := by
  have R : ∀ (a : Addr), ∀ {v d}, Rep K g H v d → Rep K (g.and a) H v d := fun a {v d} z => z.mono (g1 := g.and a) (fun _ h => Or.inl h) (fun _ h => h) rfl
  have Rs : ∀ (a : Addr), ∀ {v d}, Reps K g H v d → Reps K (g.and a) H v d := fun a {v d} z => z.mono (g1 := g.and a) (fun _ h => Or.inl h) (fun _ h => h) rfl
  cases rv with
  | val d' =>
    simp only [RV.look, Option.some.injEq] at e
    subst e
    exact ⟨g, Step.refl.shrink fun _ h => .inl h, I, h⟩
  | new ds =>
    simp only [RV.look, Option.some.injEq] at e
    subst e
    obtain ⟨a, xs, rfl, h1, h2, h3, h4, h5⟩ := h
    refine ⟨g.and a, step_and (.inl (.inr ⟨⟨ds, rfl⟩, rfl⟩)) fun _ h => .inl h, ⟨I.len, fun i d e => ?_, fun i es e => ?_, I.dis, gh_and I.gh h4 h2⟩, .lst (.inr rfl) h4 (Rs a h5)⟩
    · obtain ⟨v, q1, q2⟩ := I.val i d e
      exact ⟨v, q1, R a q2⟩
    · obtain ⟨b, ys, q1, q2, q3, q4, q5⟩ := I.own i es e
      refine ⟨b, ys, q1, fun z => ?_, q3, q4, Rs a q5⟩
      rcases z with z | rfl
      · exact q2 z
      · exact h3 ⟨i, es, e, q1⟩
  | bor i =>
    have h : σ[i]? = some (some v) := h
    simp only [RV.look] at e
    split at e
    · rename_i ds q
      cases e
      obtain ⟨a, xs, h1, h2, h3, h4, h5⟩ := I.own i ds q
      rw [h] at h1; cases h1
      have ef : (RV.bor i).froz env = eput env i (.val (.lst ds)) := by simp only [RV.froz, q]
      have hi : i < env.length := eget_lt (by rw [q]; simp)
      have nv : ∀ es, Slot.val (.lst ds) ≠ .own es := fun es z => nomatch z
      rw [ef]
      refine ⟨g.and a, step_and (.inl (.inl ⟨i, ds, q, h⟩)) fun b z => .inl (OwnA.put nv z), ⟨by rw [eput_len]; exact I.len, fun j d e => ?_, fun j es e => ?_, fun j l es fs b e1 e2 => I.dis j l es fs b (own_put nv e1) (own_put nv e2), gh_and I.gh h4 h3⟩, .lst (.inr rfl) h4 (Rs a h5)⟩
      · rw [eget_eput] at e
        split at e
        · rename_i z
          cases e
          rw [z.1]
          exact ⟨_, h, .lst (.inr rfl) h4 (Rs a h5)⟩
        · obtain ⟨v, q1, q2⟩ := I.val j d e
          exact ⟨v, q1, R a q2⟩
      · have e' := own_put nv e
        obtain ⟨b, ys, q1, q2, q3, q4, q5⟩ := I.own j es e'
        refine ⟨b, ys, q1, fun z => ?_, q3, q4, Rs a q5⟩
        rcases z with z | rfl
        · exact q2 z
        · have := I.dis j i es ds b e' q q1 h
          subst this
          rw [eget_put_same hi] at e
          cases e
    · rename_i d' q
      cases e
      obtain ⟨v', h1, h2⟩ := I.val i d q
      rw [h] at h1; cases h1
      have ef : (RV.bor i).froz env = env := by simp only [RV.froz, q]
      rw [ef]
      exact ⟨g, Step.refl.shrink fun _ h => .inl h, I, h2⟩
    · cases e
theorem After.toD {v : V} {rv : RV} {g0 : Gh} {env0 : Env} {H0 : Hp} {k : KD} {r : RV × Sta} (A : After K g0 env0 σ H0 v rv g env S H) (h : toD rv env S k = some r) :
    ∃ d g' env', AftD K g0 env0 σ H0 v d g' env' S H ∧ k d env' S = some r := by
  unfold Iv.toD at h
  split at h
  · rename_i d e
    obtain ⟨g', s, I, q⟩ := froz_ok A.ok A.rv e
    exact ⟨d, g', _, ⟨A.st.trans s, I, q⟩, h⟩
  · cases h
/-- a value that is data -/
theorem After.of {v : V} {d : D} {g1 : Gh} {env1 : Env} {S1 : Sta} (s : Step g (OwnA env σ) H g1 (OwnA env1 σ) H1) (I : IOk K g1 env1 S1 σ H1) (h : Rep K g1 H1 v d) : After K g env σ H v (.val d) g1 env1 S1 H1 :=
  ⟨s.shrink fun a z => by
    rcases z with z | z
    · exact z
    · exact absurd z newA_val, I, h, fun _ z => absurd z newA_val⟩
/-- a new list is made -/
theorem After.lst {ds : List D} {xs : List V} {p : Addr} {g1 : Gh} {env1 : Env} {S1 : Sta} (s : Step g (OwnA env σ) H g1 (OwnA env1 σ) H1) (I : IOk K g1 env1 S1 σ H1) (hp : H1 p = none) (h : Reps K g1 H1 xs ds) :
    After K g env σ H (.ref p) (.new ds) g1 env1 S1 (upd H1 p (.lst xs)) :=
  ⟨(s.trans (step_alloc hp)).shrink fun a z => by
    rcases z with z | ⟨_, z⟩
    · exact .inl z
    · cases z; exact .inr rfl, I.alloc hp, ⟨p, xs, rfl, I.notF hp, I.gh.notS hp, I.notO hp, upd_same, h.step (step_alloc (O := fun _ => False) hp) fun a q => ⟨fun z => z, I.gh.fs a q⟩⟩, fun a z => by
    cases z.2
    exact s.fresh hp⟩
/-- a new tuple is made -/
theorem After.tup {ds : List D} {xs : List V} {p : Addr} {g1 : Gh} {env1 : Env} {S1 : Sta} (s : Step g (OwnA env σ) H g1 (OwnA env1 σ) H1) (I : IOk K g1 env1 S1 σ H1) (hp : H1 p = none) (h : Reps K g1 H1 xs ds) :
    After K g env σ H (.ref p) (.val (.tup ds)) g1 env1 S1 (upd H1 p (.tup xs)) :=
  .of ((s.trans (step_alloc hp)).shrink fun a z => .inl z) (I.alloc hp) (.tup (SqT.of upd_same) (h.step (step_alloc (O := fun _ => False) hp) fun a q => ⟨fun z => z, I.gh.fs a q⟩))
/-- a value waits while another is reckoned -/
theorem After.two {v w : V} {ra rb : RV} {env1 env2 : Env} {S1 S2 : Sta} (A : After K g env σ H v ra g1 env1 S1 H1) (B : After K g1 env1 σ H1 w rb g2 env2 S2 H2) :
    Step g (OwnA env σ) H g2 (OwnA env2 σ) H2 ∧ RVR K g2 (OwnA env2 σ) σ H2 v ra :=
  ⟨(A.st.trans ((B.st.shrink (O3 := OwnA env2 σ) fun a z => .inl z).frame (NewA v ra))).shrink fun a z => .inl z, A.rv.step (B.st.shrink (O3 := OwnA env2 σ) fun a z => .inl z) A.ok.FO⟩
theorem AftD.two {v w : V} {d : D} {rb : RV} {env1 env2 : Env} {S1 S2 : Sta} (A : AftD K g env σ H v d g1 env1 S1 H1) (B : After K g1 env1 σ H1 w rb g2 env2 S2 H2) :
    Rep K g2 H2 v d := A.rep.step B.st A.ok.FO
theorem After.one {v : V} {ra : RV} {env1 : Env} {S1 : Sta} (A : After K g env σ H v ra g1 env1 S1 H1) : Step g (OwnA env σ) H g1 (OwnA env1 σ) H1 := A.st.shrink fun _ z => .inl z
end
end Iv
end

section
set_option Elab.async false
set_option linter.all false
set_option maxRecDepth 100000
namespace Iv
open PySem L2

/-! ### does the IR tell the text -/
def nmOk (x : Str) : Bool := !(x == ("__debug__" : Str)) && !(x == ("__classdict__" : Str)) && !decide (x = ("__name__" : Str))
def visC (sc : Scope) (x : Str) : Bool := decide (sc.names.lookup x = some .local) || decide (sc.names.lookup x = some .cell) || decide (sc.names.lookup x = some .free)
def glC (sc : Scope) (x : Str) : Bool := decide (sc.names.lookup x = some .globalImplicit) && nmOk x
/-- names that may be stored: cells only where top says so -/
def locC (top : Bool) (sc : Scope) (x : Str) : Bool := decide (sc.names.lookup x = some .local) || (top && decide (sc.names.lookup x = some .cell))
def opIs : Op → Operator → Bool
  | .add, .Add => true | .sub, .Sub => true | .mul, .Mult => true | .fdiv, .FloorDiv => true | .mod, .Mod => true | .pow, .Pow => true | .shl, .LShift => true
  | _, _ => false
def copIs : COp → CmpOp → Bool
  | .eq, .Eq => true | .ne, .NotEq => true | .lt, .Lt => true | .le, .LtE => true | .gt, .Gt => true | .ge, .GtE => true
  | .isn, .Is => true | .notn, .IsNot => true | .isb, .Is => true | .notb, .IsNot => true | .isin, .In => true | .notin, .NotIn => true
  | _, _ => false
def notSet : Expr → Bool
  | .Set .. => false
  | _ => true
def plainE : Expr → Bool
  | .Set .. => false | .Starred .. => false | .Slice .. => false | .Call .. => false
  | _ => true
def isiC : Bi → Bool
  | .isInt => true | .isBool => true | .isTup => true
  | _ => false
def flC (t : Bool) : Bi → Bool
  | .flatL _ => !t
  | .flatT _ => t
  | _ => false
def flagsOf : Bi → List Bool
  | .flatL fl => fl
  | .flatT fl => fl
  | _ => []
/-- a test that is no conditional expression -/
def tstC : E → Bool
  | .ite _ _ _ => false
  | .not a => tstC a
  | .and a b => tstC a && tstC b
  | .or a b => tstC a && tstC b
  | _ => true
structure Nm where
  N : List Str
  T : List Str
mutual
def chkTg (N : List Str) (top : Bool) (sc : Scope) : Tg → Expr → Bool
  | .nm j, pe => match pe with
    | .Name x _ => decide (N[j]? = some x) && locC top sc x
    | _ => false
  | .tup ts, pe => match pe with
    | .Tuple es _ _ => chkTgs N top sc ts es
    | _ => false
def chkTgs (N : List Str) (top : Bool) (sc : Scope) : List Tg → List Expr → Bool
  | [], [] => true
  | t :: ts, e :: es => chkTg N top sc t e && chkTgs N top sc ts es
  | _, _ => false
end
mutual
def chkE (M : Nm) (sc : Scope) : E → Expr → Bool
  | .var i, pe => match pe with
    | .Name x _ => decide (M.N[i]? = some x) && visC sc x && nmOk x
    | _ => false
  | .int z, pe => match pe with
    | .Constant (.int i) _ _ => decide (i = z)
    | _ => false
  | .bl b, pe => match pe with
    | .Constant (.bool c) _ _ => decide (c = b)
    | _ => false
  | .non, pe => match pe with
    | .Constant .none _ _ => true
    | _ => false
  | .str x, pe => match pe with
    | .Constant (.str y) _ _ => decide (y = x)
    | _ => false
  | .tup es, pe => match pe with
    | .Tuple l _ _ => chkEs M sc es l
    | _ => false
  | .lst es, pe => match pe with
    | .List l _ => chkEs M sc es l
    | _ => false
  | .bin op a b, pe => match pe with
    | .BinOp x o y _ => opIs op o && chkE M sc a x && chkE M sc b y
    | _ => false
  | .neg a, pe => match pe with
    | .UnaryOp .USub x _ => chkE M sc a x
    | _ => false
  | .not a, pe => match pe with
    | .UnaryOp .Not x _ => chkE M sc a x
    | _ => false
  | .cmp op a b, pe => match pe with
    | .Compare x [o] [y] _ => copIs op o && chkE M sc a x && chkE M sc b y && notSet y
    | _ => false
  | .chain op op' a b c, pe => match pe with
    | .Compare x [o, o'] [y, z] _ => copIs op o && copIs op' o' && chkE M sc a x && chkE M sc b y && chkE M sc c z && notSet y && notSet z
    | _ => false
  | .and a b, pe => match pe with
    | .BoolOp .And (x :: y :: r) pos => chkE M sc a x && (match r with
      | [] => chkE M sc b y
      | z :: q => chkE M sc b (.BoolOp .And (y :: z :: q) pos))
    | _ => false
  | .or a b, pe => match pe with
    | .BoolOp .Or (x :: y :: r) pos => chkE M sc a x && (match r with
      | [] => chkE M sc b y
      | z :: q => chkE M sc b (.BoolOp .Or (y :: z :: q) pos))
    | _ => false
  | .ite c a b, pe => match pe with
    | .IfExp t x y _ => tstC c && chkE M sc c t && chkE M sc a x && chkE M sc b y
    | _ => false
  | .idx a i, pe => match pe with
    | .Subscript x y _ => chkE M sc a x && chkE M sc i y
    | _ => false
  | .slc a lo hi, pe => match pe with
    | .Subscript x (.Slice l h none _) _ => chkE M sc a x && chkO M sc lo l && chkO M sc hi h
    | _ => false
  | .rev a, pe => match pe with
    | .Subscript x (.Slice none none (some (.UnaryOp .USub (.Constant (.int i) _ _) _)) _) _ => decide (i = 1) && chkE M sc a x
    | _ => false
  | .call f es, pe => match pe with
    | .Call (.Name x _) (y :: l) [] _ => decide (M.T[f]? = some x) && glC sc x && chkEs M sc es (y :: l)
    | _ => false
  | .bi1 b a, pe => match pe with
    | .Call (.Name x _) [y] [] _ => decide (x = b.name) && glC sc x && chkE M sc a y && b.one
    | .Call (.Name x _) [y, .Name z _] [] _ => decide (x = b.name) && glC sc x && chkE M sc a y && decide (z = b.cls) && glC sc z && isiC b
    | .List l _ => flC false b && chkX M sc a (flagsOf b) l
    | .Tuple l _ _ => flC true b && chkX M sc a (flagsOf b) l
    | _ => false
  | .bi2 b a c, pe => match pe with
    | .Call (.Name x _) [y, z] [] _ => decide (x = b.name) && glC sc x && chkE M sc a y && chkE M sc c z
    | _ => false
  | .sget a f, pe => match pe with
    | .Subscript x (.Constant (.str y) _ _) _ => decide (y = f.name) && chkE M sc a x
    | _ => false
  | .spop a, pe => match pe with
    | .Call (.Attribute x m ap) [] [] cp => decide (m = ("pop" : Str)) && plainE x && (ap.endLine == cp.line) && chkE M sc a x
    | _ => false
  | .mks a b c d, pe => match pe with
    | .Dict [some k1, some k2, some k3, some k4] [v1, v2, v3, v4] _ => isStr "cells" k1 && isStr "left" k2 && isStr "mixed" k3 && isStr "turn" k4 && chkE M sc a v1 && chkE M sc b v2 && chkE M sc c v3 && chkE M sc d v4
    | _ => false
  | .lc own elt tg it c, pe => match pe with
    | .ListComp pelt [⟨ptg, piter, pifs, a⟩] scope _ => decide (a = 0) && chkI M sc it ptg piter && blkC M.N sc scope (own.map fun i => (M.N.getD i ("" : Str), i)) && chkTg M.N false (relS scope sc) tg ptg
        && chkC M (relS scope sc) c pifs && chkE M (relS scope sc) elt pelt && tgIn own tg
    | _ => false
def chkX (M : Nm) (sc : Scope) : E → List Bool → List Expr → Bool
  | .lst es, fl, l => chkDs M sc es fl l
  | _, _, _ => false
def chkDs (M : Nm) (sc : Scope) : Es → List Bool → List Expr → Bool
  | .nil, fl, l => fl.isEmpty && l.isEmpty
  | .cons e r, fl, l => match fl with
    | true :: g => match l with
      | .Starred x _ :: q => chkSt M sc e x && chkDs M sc r g q
      | _ => false
    | false :: g => match l with
      | x :: q => chkE M sc e x && chkDs M sc r g q
      | [] => false
    | [] => false
def chkSt (M : Nm) (sc : Scope) : E → Expr → Bool
  | .bi1 b a, x => decide (b = .list) && chkE M sc a x
  | _, _ => false
def chkEs (M : Nm) (sc : Scope) : Es → List Expr → Bool
  | .nil, l => l.isEmpty
  | .cons e r, l => match l with
    | x :: q => chkE M sc e x && chkEs M sc r q
    | [] => false
def chkO (M : Nm) (sc : Scope) : Option E → Option Expr → Bool
  | none, o => o.isNone
  | some e, o => match o with
    | some x => chkE M sc e x
    | none => false
def chkC (M : Nm) (sc : Scope) : Option E → List Expr → Bool
  | none, l => l.isEmpty
  | some e, l => match l with
    | [x] => tstC e && chkE M sc e x
    | _ => false
def chkI (M : Nm) (sc : Scope) : It → Expr → Expr → Bool
  | .seq e, _, pe => chkE M sc e pe && notSet pe
  | .rg1 e, _, pe => match pe with
    | .Call (.Name x _) [y] [] _ => decide (x = ("range" : Str)) && glC sc x && chkE M sc e y
    | _ => false
  | .rg2 a b, _, pe => match pe with
    | .Call (.Name x _) [y, z] [] _ => decide (x = ("range" : Str)) && glC sc x && chkE M sc a y && chkE M sc b z
    | _ => false
  | .enu e, tg, pe => match pe with
    | .Call (.Name x _) [y] [] _ => decide (x = ("enumerate" : Str)) && glC sc x && chkE M sc e y && isTup tg
    | _ => false
def isStr (x : String) : Expr → Bool
  | .Constant (.str y) _ _ => decide (y = Str.ofString x)
  | _ => false
def isTup : Expr → Bool
  | .Tuple .. => true
  | _ => false
def tgIn (own : List Nat) : Tg → Bool
  | .nm j => own.contains j
  | .tup ts => tgsIn own ts
def tgsIn (own : List Nat) : List Tg → Bool
  | [] => true
  | t :: ts => tgIn own t && tgsIn own ts
end
end Iv
end

section
set_option autoImplicit false
set_option Elab.async false
set_option linter.all false
set_option maxRecDepth 100000
set_option smartUnfolding false
namespace Iv
open PySem L2
theorem ev_var (T : Tab) (env : Env) (S : Sta) (k : KE) (i : Nat) : ev T (.var i) env S k = (match eget env i with
    | .val d => k (.val d) env S
    | .own _ => k (.bor i) env S
    | .none => none) := rfl
theorem ev_int (T : Tab) (env : Env) (S : Sta) (k : KE) (z : Int) : ev T (.int z) env S k = (k (.val (.int z)) env S) := rfl
theorem ev_bl (T : Tab) (env : Env) (S : Sta) (k : KE) (b : Bool) : ev T (.bl b) env S k = (k (.val (.bl b)) env S) := rfl
theorem ev_non (T : Tab) (env : Env) (S : Sta) (k : KE)  : ev T (.non) env S k = (k (.val .non) env S) := rfl
theorem ev_str (T : Tab) (env : Env) (S : Sta) (k : KE) (x : Str) : ev T (.str x) env S k = (k (.val (.str x)) env S) := rfl
theorem ev_tup (T : Tab) (env : Env) (S : Sta) (k : KE) (es : Es) : ev T (.tup es) env S k = (evs T es env S fun ds env S => if ds.length ≤ LINE then k (.val (.tup ds)) env S else none) := (rfl : _ = evs T es env S fun ds env S => Bool.rec (motive := fun _ => Res) none (k (.val (.tup ds)) env S) (Nat.ble ds.length LINE)).trans (by simp only [ble_rec])
theorem ev_lst (T : Tab) (env : Env) (S : Sta) (k : KE) (es : Es) : ev T (.lst es) env S k = (evs T es env S fun ds env S => if ds.length ≤ LINE then k (.new ds) env S else none) := (rfl : _ = evs T es env S fun ds env S => Bool.rec (motive := fun _ => Res) none (k (.new ds) env S) (Nat.ble ds.length LINE)).trans (by simp only [ble_rec])
theorem ev_bin (T : Tab) (env : Env) (S : Sta) (k : KE) (op : Op) (a b : E) : ev T (.bin op a b) env S k = (ev T a env S fun ra env S => ev T b env S fun rb env S => match ra.look env with
    | some x => match rb.look env with
      | some y => binK op x y fun rv => k rv env S
      | none => none
    | none => none) := rfl
theorem ev_neg (T : Tab) (env : Env) (S : Sta) (k : KE) (a : E) : ev T (.neg a) env S k = (ev T a env S (asInt fun i env S => k (.val (.int (-i))) env S)) := rfl
theorem ev_not (T : Tab) (env : Env) (S : Sta) (k : KE) (a : E) : ev T (.not a) env S k = (ev T a env S (asBl fun b env S => k (.val (.bl (!b))) env S)) := rfl
theorem ev_cmp (T : Tab) (env : Env) (S : Sta) (k : KE) (op : COp) (a b : E) : ev T (.cmp op a b) env S k = (ev T a env S fun ra env S => ev T b env S fun rb env S => match ra.look env with
    | some x => match rb.look env with
      | some y => giveBl k (cmp op x y) env S
      | none => none
    | none => none) := (rfl : _ = (ev T a env S fun ra env S => ev T b env S fun rb env S => match ra.look env with
    | some x => match rb.look env with
      | some y => cmpW op x y fun b => k (.val (.bl b)) env S
      | none => none
    | none => none)).trans (by simp only [cmpW_eq] <;> rfl)
theorem ev_chain (T : Tab) (env : Env) (S : Sta) (k : KE) (op op' : COp) (a b c : E) : ev T (.chain op op' a b c) env S k = (ev T a env S (asInt fun x env S => ev T b env S (asInt fun y env S => match cmp op (.int x) (.int y) with
    | some true => ev T c env S (asInt fun z env S => giveBl k (cmp op' (.int y) (.int z)) env S)
    | some false => k (.val (.bl false)) env S
    | none => none))) := (rfl : _ = (ev T a env S (asInt fun x env S => ev T b env S (asInt fun y env S => andO (cmp op (.int x) (.int y)) fun b => selB b (ev T c env S (asInt fun z env S => giveBl k (cmp op' (.int y) (.int z)) env S)) (k (.val (.bl false)) env S))))).trans (by simp only [chain_eq] <;> rfl)
theorem ev_and (T : Tab) (env : Env) (S : Sta) (k : KE) (a b : E) : ev T (.and a b) env S k = (ev T a env S (asBl fun c env S => match c with
    | true => ev T b env S k
    | false => k (.val (.bl false)) env S)) := rfl
theorem ev_or (T : Tab) (env : Env) (S : Sta) (k : KE) (a b : E) : ev T (.or a b) env S k = (ev T a env S (asBl fun c env S => match c with
    | true => k (.val (.bl true)) env S
    | false => ev T b env S k)) := rfl
theorem ev_ite (T : Tab) (env : Env) (S : Sta) (k : KE) (c a b : E) : ev T (.ite c a b) env S k = (ev T c env S (asBl fun c env S => match c with
    | true => ev T a env S k
    | false => ev T b env S k)) := rfl
theorem ev_idx (T : Tab) (env : Env) (S : Sta) (k : KE) (a i : E) : ev T (.idx a i) env S k = (ev T a env S fun ra env S => ev T i env S fun ri env S => match ra.look env with
    | some x => match ri.look env with
      | some y => match item x y with
        | some d => k (.val d) env S
        | none => none
      | none => none
    | none => none) := rfl
theorem ev_slc (T : Tab) (env : Env) (S : Sta) (k : KE) (a : E) (lo hi : Option E) : ev T (.slc a lo hi) env S k = (ev T a env S fun ra env S => evo T lo env S fun l env S => evo T hi env S fun h env S => match ra.look env with
    | some x => giveRV k (sliced x l h) env S
    | none => none) := (rfl : _ = (ev T a env S fun ra env S => evo T lo env S fun l env S => evo T hi env S fun h env S => match ra.look env with
    | some x => sliceR x l h fun rv => k rv env S
    | none => none)).trans (by simp only [sliceR_eq] <;> rfl)
theorem ev_rev (T : Tab) (env : Env) (S : Sta) (k : KE) (a : E) : ev T (.rev a) env S k = (ev T a env S fun ra env S => match ra.look env with
    | some (.lst xs) => k (.new xs.reverse) env S
    | some (.tup xs) => k (.val (.tup xs.reverse)) env S
    | _ => none) := (rfl : _ = (ev T a env S fun ra env S => match ra.look env with
    | some (.lst xs) => revR xs fun rv => k rv env S
    | some (.tup xs) => revT xs fun rv => k rv env S
    | _ => none)).trans (by simp only [revR_eq, revT_eq])
theorem ev_call (T : Tab) (env : Env) (S : Sta) (k : KE) (f : Nat) (es : Es) : ev T (.call f es) env S k = (evs T es env S fun ds env S => match tget T f with
    | some (_, φ) => match φ ds S with
      | some (rv, S') => k rv env S'
      | none => none
    | none => none) := rfl
theorem ev_bi1 (T : Tab) (env : Env) (S : Sta) (k : KE) (b : Bi) (a : E) : ev T (.bi1 b a) env S k = (ev T a env S fun ra env S => match ra.look env with
    | some x => giveRV k (bi1 S b x) env S
    | none => none) := (rfl : _ = (ev T a env S fun ra env S => match ra.look env with
    | some x => bi1R S b x fun rv => k rv env S
    | none => none)).trans (by simp only [bi1R_eq] <;> rfl)
theorem ev_bi2 (T : Tab) (env : Env) (S : Sta) (k : KE) (b : Bj) (a c : E) : ev T (.bi2 b a c) env S k = (ev T a env S fun ra env S => ev T c env S fun rb env S => match ra.look env with
    | some x => match rb.look env with
      | some y => giveRV k (bi2 b x y) env S
      | none => none
    | none => none) := rfl
theorem ev_sget (T : Tab) (env : Env) (S : Sta) (k : KE) (a : E) (f : Fld) : ev T (.sget a f) env S k = (ev T a env S fun ra env S => match ra with
    | .val .src => match S.src with
      | some s => k (.val (s.get f)) env S
      | none => none
    | _ => none) := rfl
theorem ev_spop (T : Tab) (env : Env) (S : Sta) (k : KE) (a : E) : ev T (.spop a) env S k = (ev T a env S fun ra env S => match ra with
    | .val .cells => match S.src with
      | some s => match lastI s.cells with
        | some (i, q) => k (.val (.int i)) env { S with src := some { s with cells := q } }
        | none => none
      | none => none
    | _ => none) := rfl
theorem ev_mks (T : Tab) (env : Env) (S : Sta) (k : KE) (a b c d : E) : ev T (.mks a b c d) env S k = (ev T a env S fun ra env S => ev T b env S (asInt fun x env S => ev T c env S (asInt fun y env S => ev T d env S (asInt fun z env S => match ra with
    | .new ds => match intsOf ds with
      | some ns => match S.src with
        | none => k (.val .src) env { S with src := some ⟨ns, x, y, z⟩ }
        | some _ => none
      | none => none
    | _ => none)))) := rfl
theorem ev_lc (T : Tab) (env : Env) (S : Sta) (k : KE) (own : List Nat) (elt : E) (tg : Tg) (it : It) (c : Option E) : ev T (.lc own elt tg it c) env S k = (wlk T it env S fun ds env0 S => lcGo (fun x acc env S k => bind1 tg (.val x) env S fun env S =>
      evc T c env S fun b env S => match b with
        | true => ev T elt env S fun rv env S => toD rv env S fun d env S => if acc.length < LINE then k (acc ++ [d]) (wipeE env own) S else none
        | false => k acc (wipeE env own) S) ds [] (wipeE env0 own) S fun acc env S => k (.new acc) (backE env0 env own) S) := rfl
theorem wlk_seq (T : Tab) (env : Env) (S : Sta) (k : KDs) (e : E) : wlk T (.seq e) env S k = (ev T e env S fun rv env S => toD rv env S fun d env S => match d with
    | .lst xs => k xs env S
    | .tup xs => k xs env S
    | .scr => k (S.scr.map .int) env S
    | _ => none) := rfl
theorem wlk_rg1 (T : Tab) (env : Env) (S : Sta) (k : KDs) (e : E) : wlk T (.rg1 e) env S k = (ev T e env S (asInt fun i env S => if rgOk i then k (rangeD 0 i.toNat) env S else none)) := rfl
theorem wlk_rg2 (T : Tab) (env : Env) (S : Sta) (k : KDs) (a b : E) : wlk T (.rg2 a b) env S k = (ev T a env S (asInt fun i env S => ev T b env S (asInt fun j env S => if rgOk i && rgOk j then k (rangeD i (j - i).toNat) env S else none))) := rfl
theorem wlk_enu (T : Tab) (env : Env) (S : Sta) (k : KDs) (e : E) : wlk T (.enu e) env S k = (ev T e env S fun rv env S => toD rv env S fun d env S => match d with
    | .lst xs => k (enumD 0 xs) env S
    | _ => none) := rfl
theorem ex_asg (T : Tab) (env : Env) (S : Sta) (K : Kont) (tg : Tg) (e : E) : ex T (.asg tg e) env S K = (ev T e env S fun rv env S => bind1 tg rv env S K.nx) := rfl
theorem ex_par (T : Tab) (env : Env) (S : Sta) (K : Kont) (ts : List Tg) (es : Es) : ex T (.par ts es) env S K = (evr T es env S fun rvs env S => match bindRs ts rvs env with
    | some env => K.nx env S
    | none => none) := rfl
theorem ex_app (T : Tab) (env : Env) (S : Sta) (K : Kont) (i : Nat) (e : E) : ex T (.app i e) env S K = (match eget env i with
    | .own _ => ev T e env S fun rv env S => toD rv env S fun d env S => match eget env i with
      | .own ds => if ds.length < LINE then K.nx (eput env i (.own (ds ++ [d]))) S else none
      | _ => none
    | _ => none) := (rfl : _ = (match eget env i with
    | .own _ => ev T e env S fun rv env S => toD rv env S fun d env S => match eget env i with
      | .own ds => pushR ds d fun ds => K.nx (eput env i (.own ds)) S
      | _ => none
    | _ => none)).trans (by simp only [pushR_eq])
theorem ex_sset (T : Tab) (env : Env) (S : Sta) (K : Kont) (a : E) (f : Fld) (e : E) : ex T (.sset a f e) env S K = (ev T e env S fun rv env S => toD rv env S fun d env S => ev T a env S fun ra env S => match ra with
    | .val .src => match S.src with
      | some s => match s.put f d with
        | some s' => K.nx env { S with src := some s' }
        | none => none
      | none => none
    | _ => none) := rfl
theorem ex_drop (T : Tab) (env : Env) (S : Sta) (K : Kont) (e : E) : ex T (.drop e) env S K = (ev T e env S fun _ env S => K.nx env S) := rfl
theorem ex_ret (T : Tab) (env : Env) (S : Sta) (K : Kont) (e : E) : ex T (.ret e) env S K = (ev T e env S fun rv env S => match outRV rv env with
    | some r => K.rt r S
    | none => none) := rfl
theorem ex_retn (T : Tab) (env : Env) (S : Sta) (K : Kont)  : ex T (.retn) env S K = (K.rt (.val .non) S) := rfl
theorem ex_cond (T : Tab) (env : Env) (S : Sta) (K : Kont) (c : E) (a b : List Sm) : ex T (.cond c a b) env S K = (ev T c env S (asBl fun t env S => match t with
    | true => exs T a env S K
    | false => exs T b env S K)) := rfl
theorem ex_whl (T : Tab) (env : Env) (S : Sta) (K : Kont) (n : Nat) (c : E) (b : List Sm) : ex T (.whl n c b) env S K = (whl (fun env S k => ev T c env S (asBl k)) (fun env S nx => exs T b env S { K with nx := nx, ct := nx, bk := K.nx }) n env S K.nx) := rfl
theorem ex_for (T : Tab) (env : Env) (S : Sta) (K : Kont) (tg : Tg) (it : It) (b : List Sm) : ex T (.for tg it b) env S K = (wlk T it env S fun ds env S => forGo (fun x env S nx => bind1 tg (.val x) env S fun env S => exs T b env S { K with nx := nx, ct := nx, bk := K.nx }) ds env S K.nx) := rfl
theorem ex_pass (T : Tab) (env : Env) (S : Sta) (K : Kont)  : ex T (.pass) env S K = (K.nx env S) := rfl
theorem ex_brk (T : Tab) (env : Env) (S : Sta) (K : Kont)  : ex T (.brk) env S K = (K.bk env S) := rfl
theorem ex_cont (T : Tab) (env : Env) (S : Sta) (K : Kont)  : ex T (.cont) env S K = (K.ct env S) := rfl
theorem ex_never (T : Tab) (env : Env) (S : Sta) (K : Kont)  : ex T (.never) env S K = (none) := rfl
theorem chkE_var (M : Nm) (sc : Scope) (pe : Expr) (i : Nat) : chkE M sc (.var i) pe = (match pe with
    | .Name x _ => decide (M.N[i]? = some x) && visC sc x && nmOk x
    | _ => false) := rfl
theorem chkE_int (M : Nm) (sc : Scope) (pe : Expr) (z : Int) : chkE M sc (.int z) pe = (match pe with
    | .Constant (.int i) _ _ => decide (i = z)
    | _ => false) := rfl
theorem chkE_bl (M : Nm) (sc : Scope) (pe : Expr) (b : Bool) : chkE M sc (.bl b) pe = (match pe with
    | .Constant (.bool c) _ _ => decide (c = b)
    | _ => false) := rfl
theorem chkE_non (M : Nm) (sc : Scope) (pe : Expr)  : chkE M sc (.non) pe = (match pe with
    | .Constant .none _ _ => true
    | _ => false) := rfl
theorem chkE_str (M : Nm) (sc : Scope) (pe : Expr) (x : Str) : chkE M sc (.str x) pe = (match pe with
    | .Constant (.str y) _ _ => decide (y = x)
    | _ => false) := rfl
theorem chkE_tup (M : Nm) (sc : Scope) (pe : Expr) (es : Es) : chkE M sc (.tup es) pe = (match pe with
    | .Tuple l _ _ => chkEs M sc es l
    | _ => false) := rfl
theorem chkE_lst (M : Nm) (sc : Scope) (pe : Expr) (es : Es) : chkE M sc (.lst es) pe = (match pe with
    | .List l _ => chkEs M sc es l
    | _ => false) := rfl
theorem chkE_bin (M : Nm) (sc : Scope) (pe : Expr) (op : Op) (a b : E) : chkE M sc (.bin op a b) pe = (match pe with
    | .BinOp x o y _ => opIs op o && chkE M sc a x && chkE M sc b y
    | _ => false) := rfl
theorem chkE_neg (M : Nm) (sc : Scope) (pe : Expr) (a : E) : chkE M sc (.neg a) pe = (match pe with
    | .UnaryOp .USub x _ => chkE M sc a x
    | _ => false) := rfl
theorem chkE_not (M : Nm) (sc : Scope) (pe : Expr) (a : E) : chkE M sc (.not a) pe = (match pe with
    | .UnaryOp .Not x _ => chkE M sc a x
    | _ => false) := rfl
theorem chkE_cmp (M : Nm) (sc : Scope) (pe : Expr) (op : COp) (a b : E) : chkE M sc (.cmp op a b) pe = (match pe with
    | .Compare x [o] [y] _ => copIs op o && chkE M sc a x && chkE M sc b y && notSet y
    | _ => false) := rfl
theorem chkE_chain (M : Nm) (sc : Scope) (pe : Expr) (op op' : COp) (a b c : E) : chkE M sc (.chain op op' a b c) pe = (match pe with
    | .Compare x [o, o'] [y, z] _ => copIs op o && copIs op' o' && chkE M sc a x && chkE M sc b y && chkE M sc c z && notSet y && notSet z
    | _ => false) := rfl
theorem chkE_and (M : Nm) (sc : Scope) (pe : Expr) (a b : E) : chkE M sc (.and a b) pe = (match pe with
    | .BoolOp .And (x :: y :: r) pos => chkE M sc a x && (match r with
      | [] => chkE M sc b y
      | z :: q => chkE M sc b (.BoolOp .And (y :: z :: q) pos))
    | _ => false) := rfl
theorem chkE_or (M : Nm) (sc : Scope) (pe : Expr) (a b : E) : chkE M sc (.or a b) pe = (match pe with
    | .BoolOp .Or (x :: y :: r) pos => chkE M sc a x && (match r with
      | [] => chkE M sc b y
      | z :: q => chkE M sc b (.BoolOp .Or (y :: z :: q) pos))
    | _ => false) := rfl
theorem chkE_ite (M : Nm) (sc : Scope) (pe : Expr) (c a b : E) : chkE M sc (.ite c a b) pe = (match pe with
    | .IfExp t x y _ => tstC c && chkE M sc c t && chkE M sc a x && chkE M sc b y
    | _ => false) := rfl
theorem chkE_idx (M : Nm) (sc : Scope) (pe : Expr) (a i : E) : chkE M sc (.idx a i) pe = (match pe with
    | .Subscript x y _ => chkE M sc a x && chkE M sc i y
    | _ => false) := rfl
theorem chkE_slc (M : Nm) (sc : Scope) (pe : Expr) (a : E) (lo hi : Option E) : chkE M sc (.slc a lo hi) pe = (match pe with
    | .Subscript x (.Slice l h none _) _ => chkE M sc a x && chkO M sc lo l && chkO M sc hi h
    | _ => false) := rfl
theorem chkE_rev (M : Nm) (sc : Scope) (pe : Expr) (a : E) : chkE M sc (.rev a) pe = (match pe with
    | .Subscript x (.Slice none none (some (.UnaryOp .USub (.Constant (.int i) _ _) _)) _) _ => decide (i = 1) && chkE M sc a x
    | _ => false) := rfl
theorem chkE_call (M : Nm) (sc : Scope) (pe : Expr) (f : Nat) (es : Es) : chkE M sc (.call f es) pe = (match pe with
    | .Call (.Name x _) (y :: l) [] _ => decide (M.T[f]? = some x) && glC sc x && chkEs M sc es (y :: l)
    | _ => false) := rfl
theorem chkE_bi1 (M : Nm) (sc : Scope) (pe : Expr) (b : Bi) (a : E) : chkE M sc (.bi1 b a) pe = (match pe with
    | .Call (.Name x _) [y] [] _ => decide (x = b.name) && glC sc x && chkE M sc a y && b.one
    | .Call (.Name x _) [y, .Name z _] [] _ => decide (x = b.name) && glC sc x && chkE M sc a y && decide (z = b.cls) && glC sc z && isiC b
    | .List l _ => flC false b && chkX M sc a (flagsOf b) l
    | .Tuple l _ _ => flC true b && chkX M sc a (flagsOf b) l
    | _ => false) := rfl
theorem chkE_bi2 (M : Nm) (sc : Scope) (pe : Expr) (b : Bj) (a c : E) : chkE M sc (.bi2 b a c) pe = (match pe with
    | .Call (.Name x _) [y, z] [] _ => decide (x = b.name) && glC sc x && chkE M sc a y && chkE M sc c z
    | _ => false) := rfl
theorem chkE_sget (M : Nm) (sc : Scope) (pe : Expr) (a : E) (f : Fld) : chkE M sc (.sget a f) pe = (match pe with
    | .Subscript x (.Constant (.str y) _ _) _ => decide (y = f.name) && chkE M sc a x
    | _ => false) := rfl
theorem chkE_spop (M : Nm) (sc : Scope) (pe : Expr) (a : E) : chkE M sc (.spop a) pe = (match pe with
    | .Call (.Attribute x m ap) [] [] cp => decide (m = ("pop" : Str)) && plainE x && (ap.endLine == cp.line) && chkE M sc a x
    | _ => false) := rfl
theorem chkE_mks (M : Nm) (sc : Scope) (pe : Expr) (a b c d : E) : chkE M sc (.mks a b c d) pe = (match pe with
    | .Dict [some k1, some k2, some k3, some k4] [v1, v2, v3, v4] _ => isStr "cells" k1 && isStr "left" k2 && isStr "mixed" k3 && isStr "turn" k4 && chkE M sc a v1 && chkE M sc b v2 && chkE M sc c v3 && chkE M sc d v4
    | _ => false) := rfl
theorem chkE_lc (M : Nm) (sc : Scope) (pe : Expr) (own : List Nat) (elt : E) (tg : Tg) (it : It) (c : Option E) : chkE M sc (.lc own elt tg it c) pe = (match pe with
    | .ListComp pelt [⟨ptg, piter, pifs, a⟩] scope _ => decide (a = 0) && chkI M sc it ptg piter && blkC M.N sc scope (own.map fun i => (M.N.getD i ("" : Str), i)) && chkTg M.N false (relS scope sc) tg ptg
        && chkC M (relS scope sc) c pifs && chkE M (relS scope sc) elt pelt && tgIn own tg
    | _ => false) := rfl
theorem chkI_seq (M : Nm) (sc : Scope) (tg pe : Expr) (e : E) : chkI M sc (.seq e) tg pe = (chkE M sc e pe && notSet pe) := rfl
theorem chkI_rg1 (M : Nm) (sc : Scope) (tg pe : Expr) (e : E) : chkI M sc (.rg1 e) tg pe = (match pe with
    | .Call (.Name x _) [y] [] _ => decide (x = ("range" : Str)) && glC sc x && chkE M sc e y
    | _ => false) := rfl
theorem chkI_rg2 (M : Nm) (sc : Scope) (tg pe : Expr) (a b : E) : chkI M sc (.rg2 a b) tg pe = (match pe with
    | .Call (.Name x _) [y, z] [] _ => decide (x = ("range" : Str)) && glC sc x && chkE M sc a y && chkE M sc b z
    | _ => false) := rfl
theorem chkI_enu (M : Nm) (sc : Scope) (tg pe : Expr) (e : E) : chkI M sc (.enu e) tg pe = (match pe with
    | .Call (.Name x _) [y] [] _ => decide (x = ("enumerate" : Str)) && glC sc x && chkE M sc e y && isTup tg
    | _ => false) := rfl
end Iv
end

section
set_option Elab.async false
set_option linter.all false
set_option maxRecDepth 100000
namespace Iv
open PySem PySem.Spec PyProof.Rows L2

/-! ### forms of what is read -/
section
variable {K : PySem.W.Frag} {g g1 g2 : Gh} {O O1 O2 : Addr → Prop} {H H1 H2 : Hp} {env : Env} {S : Sta} {σ : L2.St} {v : V}
theorem PRep.toInt {i : Int} (h : PRep K g H v (.int i)) : v = .int i := by
  rcases h with h | ⟨_, _, _, _, e, _⟩
  · cases h; rfl
  · cases e
theorem PRep.toBl {b : Bool} (h : PRep K g H v (.bl b)) : v = .bl b := by
  rcases h with h | ⟨_, _, _, _, e, _⟩
  · cases h; rfl
  · cases e
theorem PRep.toStr {x : Str} (h : PRep K g H v (.str x)) : v = .str x := by
  rcases h with h | ⟨_, _, _, _, e, _⟩
  · cases h; rfl
  · cases e
theorem PRep.toRep {d : D} (h : PRep K g H v (.rep d)) : v = .str d.py.shown := by
  rcases h with h | ⟨_, _, _, _, e, _⟩
  · cases h; rfl
  · cases e
theorem PRep.toNon (h : PRep K g H v .non) : v = .non := by
  rcases h with h | ⟨_, _, _, _, e, _⟩
  · cases h; rfl
  · cases e
theorem PRep.toLst {ds : List D} (h : PRep K g H v (.lst ds)) : ∃ a xs, v = .ref a ∧ H a = some (.lst xs) ∧ Reps K g H xs ds := by
  rcases h with h | ⟨a, xs, es, e1, e2, e3, e4⟩
  · cases h with
    | lst h1 h2 h3 => exact ⟨_, _, rfl, h2, h3⟩
  · cases e2
    exact ⟨a, xs, e1, e3, e4⟩
theorem PRep.toTup {ds : List D} (h : PRep K g H v (.tup ds)) : ∃ a xs, v = .ref a ∧ SqT K H a xs ∧ Reps K g H xs ds := by
  rcases h with h | ⟨_, _, _, _, e, _⟩
  · cases h with
    | tup h1 h2 => exact ⟨_, _, rfl, h1, h2⟩
  · cases e
theorem PRep.toSrc (h : PRep K g H v .src) : ∃ a c, v = .ref a ∧ g.sc = some (a, c) := by
  rcases h with h | ⟨_, _, _, _, e, _⟩
  · cases h with
    | src h => exact ⟨_, _, rfl, h⟩
  · cases e
theorem PRep.toCells (h : PRep K g H v .cells) : ∃ a c, v = .ref c ∧ g.sc = some (a, c) := by
  rcases h with h | ⟨_, _, _, _, e, _⟩
  · cases h with
    | cells h => exact ⟨_, _, rfl, h⟩
  · cases e
theorem PRep.notNon {d : D} (h : PRep K g H v d) (n : d ≠ .non) : v ≠ .non := by
  rcases h with h | ⟨_, _, _, e, _⟩
  · intro z
    subst z
    cases h
    exact n rfl
  · rw [e]; simp
end

/-! ### operators by values -/
section
variable {X : Cx}
def rEqP (K : PySem.W.Frag) : R2 := fun x y H Q => ∃ d e : PyData, Dp K H x d ∧ Dp K H y e ∧ d.plain = true ∧ e.plain = true ∧ d.depth ≤ 60 ∧ Q (.bl (PyData.eqv d e)) H
def rNeP (K : PySem.W.Frag) : R2 := fun x y H Q => ∃ d e : PyData, Dp K H x d ∧ Dp K H y e ∧ d.plain = true ∧ e.plain = true ∧ d.depth ≤ 60 ∧ Q (.bl (!PyData.eqv d e)) H
theorem op_eqP (hu : X.A.units + 70 < cLine) : OpR X (compareOp .Eq) (rEqP X.K) := by
  intro pins s σ H x y v u Q I rx ry h
  obtain ⟨d, e, hd, he, sd, se, dd, q⟩ := h
  obtain ⟨as, r1⟩ := Dp.reads I d x v hd rx
  obtain ⟨bs, r2⟩ := Dp.reads I e y u he ry
  exact SeqAt.eq_plain r1 r2 sd se (by omega) ⟨.bl _, H, I, rfl, q⟩
theorem op_neP (hu : X.A.units + 70 < cLine) : OpR X (compareOp .NotEq) (rNeP X.K) := by
  intro pins s σ H x y v u Q I rx ry h
  obtain ⟨d, e, hd, he, sd, se, dd, q⟩ := h
  obtain ⟨as, r1⟩ := Dp.reads I d x v hd rx
  obtain ⟨bs, r2⟩ := Dp.reads I e y u he ry
  exact SeqAt.ne_plain r1 r2 sd se (by omega) ⟨.bl _, H, I, rfl, q⟩
def rInP (K : PySem.W.Frag) (neg : Bool) : R2 := fun x y H Q => ∃ (d : PyData) (ds : List PyData), Dp K H x d ∧ (Dp K H y (.list ds) ∨ Dp K H y (.tuple ds)) ∧ d.plain = true ∧ PyData.plainAll ds = true ∧ d.depth ≤ 60 ∧
  Q (.bl (if neg then !(ds.any fun z => PyData.eqv z d) else ds.any fun z => PyData.eqv z d)) H
theorem op_inP (hu : X.A.units + 70 < cLine) : OpR X (compareOp .In) (rInP X.K false) := by
  intro pins s σ H x y v u Q I rx ry h
  obtain ⟨d, ds, hd, he, sd, se, dd, q⟩ := h
  obtain ⟨as, r1⟩ := Dp.reads I d x v hd rx
  rcases he with he | he
  · obtain ⟨bs, r2⟩ := Dp.reads I (.list ds) y u he ry
    exact SeqAt.in_list_data r2 r1 se sd (by omega) ⟨.bl _, H, I, rfl, q⟩
  · obtain ⟨bs, r2⟩ := Dp.reads I (.tuple ds) y u he ry
    exact SeqAt.in_tuple_data r2 r1 se sd (by omega) ⟨.bl _, H, I, rfl, q⟩
theorem op_notinP (hu : X.A.units + 70 < cLine) : OpR X (compareOp .NotIn) (rInP X.K true) := by
  intro pins s σ H x y v u Q I rx ry h
  obtain ⟨d, ds, hd, he, sd, se, dd, q⟩ := h
  obtain ⟨as, r1⟩ := Dp.reads I d x v hd rx
  rcases he with he | he
  · obtain ⟨bs, r2⟩ := Dp.reads I (.list ds) y u he ry
    exact SeqAt.notIn_list_data r2 r1 se sd (by omega) ⟨.bl _, H, I, rfl, q⟩
  · obtain ⟨bs, r2⟩ := Dp.reads I (.tuple ds) y u he ry
    exact SeqAt.notIn_tuple_data r2 r1 se sd (by omega) ⟨.bl _, H, I, rfl, q⟩
/-- the division that the interpreter lets -/
theorem op_divX : OpR X (binaryOp .FloorDiv) (rI (fun _ j => divOk j = true) fun i j => .int (fdivI i j)) := by
  refine opI fun i j _ _ _ _ _ hc q => ?_
  unfold divOk at hc
  simp only [Bool.or_eq_true, Bool.and_eq_true, decide_eq_true_eq] at hc
  rcases hc with ⟨h1, h2⟩ | ⟨h1, h2⟩
  · exact floordiv_int (by omega) q (.inl (PyProof.noPylong_of_log2 h2))
  · exact floordiv_int h1 q (.inl (PyProof.noPylong_small h2))
theorem op_modX : OpR X (binaryOp .Mod) (rI (fun _ j => j ≠ 0) fun i j => .int (fmodI i j)) := op_modN
theorem op_mulX : OpR X (binaryOp .Mult) (rI (fun i j => mulOk i j = true) fun i j => .int (i * j)) := by
  refine opI fun i j _ _ _ _ _ hc q => ?_
  unfold mulOk at hc
  simp only [Bool.or_eq_true, decide_eq_true_eq] at hc
  refine mul_int q ?_
  rcases hc with (h | h) | h
  · exact CMul.ok (.inl ⟨by omega, by omega⟩)
  · exact CMul.ok (.inr ⟨by omega, by omega⟩)
  · exact CMulW.ok h
end
end Iv
end

section
set_option Elab.async false
set_option linter.all false
set_option autoImplicit false
set_option maxRecDepth 100000
/-! Iv: a def's promise where nothing is being shown (no list's text is under way): what repr of a list wants to know -/
namespace Iv
open PySem PySem.Spec PyProof.Rows L2
structure FnG (P : Program) (w : World) (K : PySem.W.Frag) (mg : Str → Option Value) (base : Heap) (n : Nat) (fa : Addr) (fd : FuncData) (names : List Str) (sp : Sp) : Prop where
  len : ∀ xs H Q E, sp xs H Q E → xs.length = names.length
  run : ∀ (A : Around) (fr : List PySem.Env) (s : Shared) (H : Hp) (ar : Args) (us : List Value) (xs : List V) (Q : VK) (E : XK), A.guards = some [] → Room n A → Env0 P w K mg base A fr s H →
    BindsTo s fd ar (names.zip us) → Vals xs us → sp xs H Q E → codeAny (model P w) A (.call (.ref fa) ar) (CR CX0 fr P w H s Q E) s
section
variable {X : Cx} {n : Nat} {fa : Addr} {fd : FuncData} {names : List Str} {sp : Sp} {E : XK}
/-- it is called -/
theorem FnG.go (F : FnG X.prog X.w X.K X.mg X.base n fa fd names sp) (gd : X.A.guards = some []) (rm : Room n X.A) (bd : Binds X.K fd names []) {pins : List (Addr × Obj)} {σ : L2.St} {H : Hp} {s : Shared} {Q : VK} {us : List Value} {xs : List V}
    (I : Inv X pins σ H s) (rv : Vals xs us) (h : sp xs H Q E) : wpAny (model X.prog X.w) X.A (call (.ref fa) us) (EP X pins σ Q) X.xe s := by
  have ln : (us ++ []).length = names.length := by
    rw [List.append_nil, ← rv.length]
    exact F.len _ _ _ _ h
  have b := bd s us I.kIn ln
  simp only [List.append_nil] at b
  refine wpAny_call (codeAny_mono (F.run X.A X.stack s H ⟨us, []⟩ us xs Q E gd rm I.env0 b rv h) ?_)
  intro out s2 z
  match out, z with
  | .ok (.ret u), z => exact I.after z
  | .ok .next, z => exact z.elim
  | .ok .brk, z => exact z.elim
  | .ok .cont, z => exact z.elim
  | .error e, z => exact z.elim
theorem pe_callG {x : Str} {p pos : Pos} {e : Expr} {es : List Expr} {t : TA} (F : FnG X.prog X.w X.K X.mg X.base n fa fd names sp) (gd : X.A.guards = some []) (rm : Room n X.A) (bd : Binds X.K fd names [])
    (hg : Gl X x) (hm : X.mg x = some (.ref fa)) (hk : PySem.W.keepIn X.K (.ref fa) = true) (pa : PA X (e :: es) t) (hd : (x == ("__debug__" : Str)) = false)
    (hs : starEach (e :: es) X.env = (false, eval e X.env) :: starEach es X.env) (hp : (backTo pos (starEach es X.env)).any (·.1) = false) : PE X (.Call (.Name x p) (e :: es) [] pos) (fun σ H Q => t σ H fun xs H1 => sp xs H1 Q E) := by
  constructor
  intro pins s σ H Q I h
  refine wpAny_Call_Name_kw (ld_glob I hg hm (PySem.W.callWith_K (h₀ := X.base) I.ok.mod.kin hk ?_ hs hp) hd)
  exact thn (pa.run pos pins s σ H _ I h) fun us s1 ⟨xs, H1, I1, rv, q⟩ => ⟨I1.kIn, F.go gd rm bd I1 rv q⟩
end
section
variable {P : Program} {w : World} {K : PySem.W.Frag} {mg : Str → Option Value} {base : Heap}
/-- a def, by its body -/
theorem fnG_of {nm qual : Str} {st : Stmt} {fa : Addr} {fd : FuncData} {N names : List Str} {n : Nat} {sp : Sp} (F : Fun K nm qual st fa fd) (S : FnScope N names (defScope st)) (len : ∀ xs H Q E, sp xs H Q E → xs.length = names.length)
    (body : ∀ (cv : Value) (A : Around) (fr : List PySem.Env) (s : Shared) (H : Hp) (xs : List V) (Q : VK) (E : XK), A.guards = some [] → Room n (A.deeper (envOfC qual (defScope st) s.heap.objs.size fa cv)) → sp xs H Q E →
      ∃ t, PSs (cxOf CX0 P w K mg base N qual (defScope st) fa cv A fr s H E).nox (defBody st) t ∧ t { nx := fun _ H2 => Q .non H2, rt := Q } (start N xs) H) : FnG P w K mg base (n + 1) fa fd names sp := by
  obtain ⟨c1, c2, c3, c4, c5, c6, cv, c8, c9, rfl, lk, cd⟩ := F.ex
  refine ⟨len, ?_⟩
  intro A fr s H ar us xs Q E gd rm e0 bd rv hs
  have ln := len _ _ _ _ hs
  have kin : K.In s.heap := e0.mod.kin.keeps fun b o z => (e0.bs b o z).1
  have nl : s.heap.NoLimit := e0.mod.nolimit.keeps fun b o z => (e0.bs b o z).1
  have kinds : ∀ y ∈ names.zip us, (defScope st).names.lookup y.1 = some .local ∨ ((defScope st).names.lookup y.1 = some .cell ∧ ((cellsFrom (s.heap.objs.size + 1) (defScope st).names []).lookup y.1).isSome = true) := by
    rintro ⟨y, v⟩ hy
    rcases S.par y (List.of_mem_zip hy).1 with q | q
    · exact Or.inl q
    · exact Or.inr ⟨q, PySem.W.cellsFrom_some _ _ _ (Or.inl q)⟩
  refine codeAny_call_function rm.depth (kin _ _ lk) rfl S.co S.gen rfl (PySem.W.codeRec_of kin cd) (bd _ _ _ _ (wpAny_newFunctionEnv_cells S.kind kinds fun en he s1 x => ?_))
  subst he
  obtain ⟨t, pt, qt⟩ := body cv A fr s H xs Q E gd (rm.deeper _) hs
  have I := inv_start (CX := CX0) (E := E) S rm.hd e0 ln rv x
  refine ⟨nl.keeps x.toInCall.keep, codeAny_func (wpAny_mono (pt.nox.run [] s1 (start N xs) H _ I qt) ?_ fun e s2 z => z)⟩
  intro fl s2 z
  match fl, z with
  | .ret u, ⟨v, σ2, H2, J, r, q⟩ => exact ⟨v, H2, J.os, J.bare, J.base, J.hok, r, q⟩
  | .next, ⟨σ2, H2, J, q⟩ => exact ⟨.non, H2, J.os, J.bare, J.base, J.hok, rfl, q⟩
  | .brk, ⟨_, _, _, q⟩ => exact q.elim
  | .cont, ⟨_, _, _, q⟩ => exact q.elim
/-- the law's call from the top -/
theorem topG {mb : Str → Option Value} {n : Nat} {fa a : Addr} {fd : FuncData} {x : Str} {sp : Sp} {s : Shared} {vs : List Value} {ns : List Int} (kin : K.In s.heap) (nsM : s.heap.Ns mainGlobals mg) (nsB : s.heap.Ns builtinsNs mb)
    (bt : ∀ y : Str, y ≠ "__name__" → mb y = bootBuiltins y) (nl : s.heap.NoLimit) (gens : s.gens = #[]) (ob : s.heap.get? a = some { cls := .type "list", data := .seq vs.toArray }) (hi : IntsAre vs ns) (hz : ns.length ≤ sizeLine)
    (rm : Room n callerA) (F : ∀ base : Heap, K.In base → base.Ns mainGlobals mg → FnG P w K mg base n fa fd [x] sp) (bd : ∀ (s : Shared) (u : Value), BindsTo s fd ⟨[u], []⟩ [(x, u)])
    (hsp : ∀ H : Hp, Only H → SqL K H a (ns.map V.int) → sp [.ref a] H (fun v _ => v = .bl true) fun _ _ _ => False) :
    codeAny (model P w) callerA (.call (.ref fa) ⟨[.ref a], []⟩) (fun out s2 => out = .ok (.ret (.bool true)) ∧ OldK s.heap s2.heap ∧ s2.os = s.os ∧ AllBare s2.gens) s := by
  have ri := vals_ints hi
  have key : ∀ H : Hp, Only H → SqL K H a (ns.map V.int) → HOk P w H s.heap → (∀ b, H b ≠ none → b = a) → (H a ≠ none → K.lookup a = none) →
      codeAny (model P w) callerA (.call (.ref fa) ⟨[.ref a], []⟩) (fun out s2 => out = .ok (.ret (.bool true)) ∧ OldK s.heap s2.heap ∧ s2.os = s.os ∧ AllBare s2.gens) s := by
    intro H only seq ok one out
    have free : ∀ {b : Addr} {o : Obj} {es : Array DictEntry} {k : Nat}, s.heap.get? b = some o → o.data = .dict es k → H b = none := by
      intro b o es k z d
      by_cases q : H b = none
      · exact q
      · rw [one b q, ob] at z
        cases z
        cases d
    have ns2 : ∀ {b : Addr} {m : Str → Option Value}, s.heap.Ns b m → (hidT s.heap H).Ns b m := by
      rintro b m ⟨o, es, k, z, d, r⟩
      exact ⟨o, es, k, hidT_get z (free z d), d, r⟩
    have kin2 : K.In (hidT s.heap H) := by
      intro b o z
      refine hidT_get (kin b o z) ?_
      by_cases q : H b = none
      · exact q
      · have e := one b q
        subst e
        rw [out q] at z
        cases z
    have md : Mod K mg (hidT s.heap H) := by
      obtain ⟨mc, z1, z2⟩ := nl
      exact ⟨kin2, ns2 nsM, ⟨mb, ns2 nsB, bt⟩, mc, ns2 z1, z2⟩
    have e0 : Env0 P w K mg (hidT s.heap H) callerA [] s H := by
      refine ⟨rfl, md, fun b o z => of_hidT z, Nat.le_of_eq (hidT_size _ _), trivial, ?_, ok, .of_eq gens⟩
      intro b z
      cases z
    refine codeAny_mono ((F _ kin2 (ns2 nsM)).run callerA [] s H ⟨[.ref a], []⟩ [.ref a] [.ref a] _ _ rfl rm e0 (bd s (.ref a)) (.cons rfl .nil) (hsp H only seq)) ?_
    intro r s2 z
    match r, z with
    | .error e, z => exact z.elim
    | .ok .next, z => exact z.elim
    | .ok .brk, z => exact z.elim
    | .ok .cont, z => exact z.elim
    | .ok (.ret u), ⟨v, H2, os, bare, un, ok2, rr, qq⟩ =>
      have qq : v = .bl true := qq
      subst qq
      have rr : u = Value.bool true := rr
      subst rr
      refine ⟨rfl, OldK.of_keep fun b o z => ?_, os, bare⟩
      rcases only b with q | ⟨o2, ys, q⟩
      · refine un.keep b o z q ?_ ?_
        · intro y
          have y : b ∈ ([] : List Addr) := y
          cases y
        · intro y
          cases y
      · obtain ⟨y1, -⟩ := ok b _ q
        obtain ⟨y2, -⟩ := ok2 b _ (un.frzs b o2 _ q)
        rw [z] at y1
        cases y1
        exact y2
  by_cases lk : K.lookup a = none
  · refine key (fun b => if b = a then some (.frz { cls := .type "list", data := .seq vs.toArray } (.lst (ns.map V.int))) else none) ?_ ?_ ?_ ?_ fun _ => lk
    · intro b
      by_cases e : b = a
      · exact Or.inr ⟨_, _, if_pos e⟩
      · exact Or.inl (if_neg e)
    · exact Or.inl (Or.inr ⟨{ cls := .type "list", data := .seq vs.toArray }, if_pos rfl⟩)
    · intro b u z
      by_cases e : b = a
      · have z := (if_pos e).symm.trans z
        cases z
        subst e
        exact ⟨ob, by rw [List.length_map]; exact hz, vs, _, ri, ob⟩
      · have z := (if_neg e).symm.trans z
        cases z
    · intro b z
      by_cases e : b = a
      · exact e
      · exact absurd (if_neg e) z
  · obtain ⟨o, lk⟩ := Option.ne_none_iff_exists'.mp lk
    have z := kin a o lk
    rw [ob] at z
    cases z
    refine key (fun _ => none) (fun _ => Or.inl rfl) ?_ (fun b u z => by cases z) (fun b z => absurd rfl z) fun z => absurd rfl z
    exact Or.inr ⟨_, vs.toArray, _, lk, rfl, rfl, rfl, by rw [List.size_toArray, hi.length]; exact hz, by simpa using ri⟩
end
theorem walkG {l : PySem.W.OpenLaw} {m n : Nat} {q : Program} {loose : List Str} {XP : (Str → Option Value) → Heap → Prop} {YP : World → Heap → Prop} {d : DefRec} {K : Params → PySem.W.Frag} {sp : World → Sp} {x : Str}
    (hm : l.most = some m) (hm2 : m ≤ sizeLine) (df : d.params.defaults = []) (rm : Room n callerA) (hY : ∀ (w : World) (h : Heap), YP w h → (K w.params).In h)
    (F : ∀ (w : World) (mg : Str → Option Value) (fa : Addr) (h : Heap), (K w.params).In h → h.Ns mainGlobals mg → mg d.name = some (.ref fa) →
      ∃ fd : FuncData, (∀ (s : Shared) (u : Value), BindsTo s fd ⟨[u], []⟩ [(x, u)]) ∧ ∀ base : Heap, (K w.params).In base → base.Ns mainGlobals mg → FnG l.prog w (K w.params) mg base n fa fd [x] (sp w))
    (hs : ∀ (w : World) (H : Hp) (a : Addr) (ns : List Int), ns.length ≤ m → Only H → SqL (K w.params) H a (ns.map V.int) → sp w [.ref a] H (fun v _ => v = .bl true) fun _ _ _ => False) :
    PySem.W.WalkO q loose XP YP l.row.toRowW d [] (fun f vs => PySem.call f vs) := by
  refine Att.attach_call hm df ?_
  intro w s0 s1 mg mb fa o pm cd doc a vs ns G Y ho hd hcd hg ob hi hl gens
  have kin := hY w _ Y
  obtain ⟨fd, bd, FF⟩ := F w mg fa _ kin G.T.g hg
  exact topG kin G.T.g G.T.b G.T.builtins G.T.nolimit gens ob hi (Nat.le_trans hl hm2) rm FF bd fun H hO hS => hs w H a ns hl hO hS
/-! a tuple the other way round -/
section
open HT
variable {prog : Program} {w : World} {A : Around} {E : Value → Shared → Prop} {s : Shared}
theorem back_pick (xs : Array Value) : ((List.range xs.size).filterMap fun (k : Nat) => xs[((xs.size : Int) - 1 + (k : Int) * (-1)).toNat]?).toArray = xs.toList.reverse.toArray := by
  have h := PySem.W.krv_pick xs
  unfold slicePick at h
  rw [PySem.W.krv_bounds] at h
  have h : ((sliceRange ((xs.size : Int) - 1) (-1) (-1)).filterMap (xs[·]?)).toArray = xs.toList.reverse.toArray := h
  rw [PySem.W.krv_sliceRange, List.filterMap_map] at h
  rw [← h]
  congr 2
  funext k
  show xs[((xs.size : Int) - 1 + (k : Int) * (-1)).toNat]? = xs[xs.size - 1 - k]?
  by_cases c : k < xs.size
  · have : ((xs.size : Int) - 1 + (k : Int) * (-1)).toNat = xs.size - 1 - k := by omega
    rw [this]
  · have : ((xs.size : Int) - 1 + (k : Int) * (-1)).toNat = xs.size - 1 - k := by omega
    rw [this]
theorem applied_back {sl : Addr} {t : Tok} {n : Nat} {Q : Int × Int × Nat → Shared → Prop} (hs : s.heap.IsSliceOf sl .none .none (.int (-1) t)) (h : Q ((n : Int) - 1, -1, n) s) :
    wpAny (model prog w) A (Builtin.Slice.sliceApplied (.ref sl) (pure (n : Int))) Q E s := by
  obtain ⟨os, h1, h2, h3⟩ := id hs
  unfold Builtin.Slice.sliceApplied Builtin.Slice.sliceFields
  refine wpAny_bind (wpAny_bind (wpAny_field h1 h3 (x := .none) rfl (wpAny_bind (wpAny_field h1 h3 (x := .none) rfl (wpAny_bind (wpAny_field h1 h3 (x := .int (-1) t) rfl (wpAny_pure ?_)))))))
  refine wpAny_bind (slicePart_int ?_)
  show wpAny _ _ (if ((-1 : Int) == 0) = true then _ else _) _ _ s
  rw [if_neg (by decide)]
  refine wpAny_bind (slicePart_none (wpAny_bind (slicePart_none (wpAny_bind (wpAny_pure ?_)))))
  show wpAny _ _ (pure ((n : Int) - 1, (-1 : Int), Builtin.Slice.slicePlaces ((n : Int) - 1) (-1) (-1))) _ _ s
  have e : Builtin.Slice.slicePlaces ((n : Int) - 1) (-1) (-1) = n := by
    unfold Builtin.Slice.slicePlaces
    have z : ¬ ((-1 : Int) > 0) := by decide
    rw [if_neg z]
    by_cases c : (n : Int) - 1 > -1
    · rw [if_pos c]
      have : ((n : Int) - 1 - -1 - 1) / (- -1) + 1 = n := by
        have e1 : (- -1 : Int) = 1 := by decide
        rw [e1, Int.ediv_one]
        omega
      rw [this]
      omega
    · rw [if_neg c]
      omega
  rw [e]
  exact wpAny_pure h
theorem item_back {a sl : Addr} {xs : Array Value} {t : Tok} {Q : Value → Shared → Prop} (ht : IsTup s.heap a xs) (hs : s.heap.IsSliceOf sl .none .none (.int (-1) t)) (hz : xs.size ≤ sizeLine)
    (h : Q (.ref s.heap.objs.size) { s with heap := s.heap.push { cls := .type "tuple", data := .seq xs.toList.reverse.toArray } }) : wpAny (model prog w) A (getItem (.ref a) (.ref sl)) Q E s := by
  have so : sizeOk (.seq xs.toList.reverse.toArray) := by
    show xs.toList.reverse.toArray.size ≤ sizeLine
    rw [List.size_toArray, List.length_reverse, Array.length_toList]
    exact hz
  obtain ⟨os, h1, h2, h3⟩ := id hs
  have ts : s.TypeIs (.ref sl) "slice" := ⟨os, h1, h2⟩
  unfold getItem
  try with_reducible refine wpAny_holding ?_
  first | refine wpAny_bind (wpAny_pure ?_) | skip
  refine wpAny_bind (wpAny_sequenceKey ht.typeIs (by decide) (wpAny_bind (wpAny_callSpecial?_slot (name := Str.ofString "__getitem__") ht.typeIs PyProof.Rows.slot_tuple_getitem (wpAny_call_entry PyProof.Rows.slot_tuple_getitem ht.typeIs entry_tuple_getitem ?_ (args_tuple_getitem _ _)))))
  show wpAny _ _ (Builtin.Tuple.tupleItemsOf (.ref a) >>= _) _ _ s
  refine wpAny_bind (tupleItemsOf_ ht (wpAny_bind (wpAny_typeOf ts ?_)))
  rw [if_pos (by decide)]
  refine wpAny_bind (applied_back hs ?_)
  have no : ¬ ((((xs.size : Int) - 1) == 0 && (-1 : Int) == 1 && xs.size == xs.size) = true) := by
    intro q
    rw [Bool.and_eq_true, Bool.and_eq_true] at q
    exact absurd q.1.2 (by decide)
  show wpAny _ _ (if (((xs.size : Int) - 1) == 0 && (-1 : Int) == 1 && xs.size == xs.size) = true then _ else _) _ _ s
  rw [if_neg no, back_pick]
  first
    | exact wpAny_bind (m := Builtin.Tuple.tupleExact _) (wpAny_newObj_type (wpAny_pure ⟨_, rfl, wpAny_pure h⟩) so)
    | exact wpAny_bind (m := Builtin.Tuple.tupleExact _) (wpAny_newObj_type (wpAny_bind (wpAny_pure (wpAny_pure ⟨_, rfl, wpAny_pure h⟩))) so)
    | exact wpAny_bind (wpAny_bind (m := Builtin.Tuple.tupleExact _) (wpAny_newObj_type (wpAny_pure (wpAny_pure ⟨_, rfl, wpAny_pure h⟩)) so))
    | exact wpAny_bind (wpAny_bind (m := Builtin.Tuple.tupleExact _) (wpAny_newObj_type (wpAny_pure ⟨_, rfl, wpAny_pure h⟩) so))
end
section
variable {X : Cx}
theorem pe_revA {e : Expr} {te : TE} {k : Nat} {p1 p2 p3 pos : Pos} (he : PE X e te) : PE X (.Subscript e (.Slice none none (some (.UnaryOp .USub (.Constant (.int 1) k p1) p2)) p3) pos)
    (fun σ H Q => te σ H fun x H1 => ∃ a xs, x = .ref a ∧ ((SqL X.K H1 a xs ∧ ∀ p, H1 p = none → Q (.ref p) (upd H1 p (.lst xs.reverse))) ∨ (SqT X.K H1 a xs ∧ ∀ p, H1 p = none → Q (.ref p) (upd H1 p (.tup xs.reverse))))) := by
  constructor
  intro pins s σ H Q I h
  refine Subscript_ (thn (he.run pins s σ H _ I h) ?_)
  rintro v s1 ⟨x, H1, I1, r1, a, xs, rfl, hx⟩
  cases r1
  have st : PO X (some (.UnaryOp .USub (.Constant (.int 1) k p1) p2)) (tPart (tUn (rU fun i => .int (-i)) (tC (.int 1)))) := po_some (pe_un un_neg pe_int)
  refine wpAny_Slice (thn (po_none.run pins s1 σ H1 (fun o H2 => o = none ∧ H2 = H1) I1 ⟨rfl, rfl⟩) ?_)
  rintro v1 s2 ⟨_, _, I2, q1, rfl, rfl⟩
  refine thn (po_none.run pins s2 σ _ (fun o H2 => o = none ∧ H2 = _) I2 ⟨rfl, rfl⟩) ?_
  rintro v2 s3 ⟨_, _, I3, q2, rfl, rfl⟩
  refine thn (st.run pins s3 σ _ (fun o H2 => o = some (-1) ∧ H2 = _) I3 ⟨1, rfl, -1, rfl, rfl, rfl⟩) ?_
  rintro v3 s4 ⟨_, _, I4, q3, rfl, rfl⟩
  cases q1
  cases q2
  cases q3
  rename_i tk
  have I5 := I4.kept (t' := s4.toks) (h' := s4.heap.push { cls := .type "slice", data := .fields #[.none, .none, .int (-1) tk] }) fun b ob q => Heap.get?_push_of_some _ q
  show wpAny (model X.prog X.w) X.A (subscriptTail e (.Slice none none (some (.UnaryOp .USub (.Constant (.int 1) k p1) p2)) p3) (.ref a) (.ref s4.heap.objs.size)) (EP X pins σ Q) X.xe { s4 with heap := s4.heap.push { cls := .type "slice", data := .fields #[.none, .none, .int (-1) tk] } }
  rcases hx with ⟨hx, q⟩ | ⟨hx, q⟩
  · obtain ⟨its, r, ht, hz⟩ := I5.list hx
    have hl := r.length
    refine tail_any (ops := [.ref a, .ref s4.heap.objs.size]) ht.isList.typeIs (PySem.slot_list_getitem.lookup) ?_ (by with_unfolding_all rfl)
    refine wpAny_getItem_list_slice ht.isList (Heap.IsSliceOf.new _ .none .none (.int (-1) tk)) .none .none (.int (-1) tk) (by decide) ?_ (by rw [List.size_toArray]; omega)
    rw [PySem.W.krv_pick]
    refine ⟨.ref _, _, I5.laid (t' := s4.toks) (o := .lst xs.reverse) (fun b ob z => Heap.get?_push_of_some _ z) (Nat.le_refl _) ⟨by rw [List.length_reverse]; exact hz, _, 0, r.reverse, Heap.get?_push_size _ rfl⟩, rfl, q _ (I5.hok.fresh (Nat.le_refl _))⟩
  · obtain ⟨its, r, ht, hz⟩ := I5.tuple hx
    have hl := r.length
    refine tail_any (ops := [.ref a, .ref s4.heap.objs.size]) ht.typeIs PyProof.Rows.slot_tuple_getitem.lookup ?_ (by with_unfolding_all rfl)
    refine item_back ht (Heap.IsSliceOf.new _ .none .none (.int (-1) tk)) (by rw [List.size_toArray]; omega) ?_
    refine ⟨.ref _, _, I5.laid (t' := s4.toks) (o := .tup xs.reverse) (fun b ob z => Heap.get?_push_of_some _ z) (Nat.le_refl _) ⟨by rw [List.length_reverse]; exact hz, _, r.reverse, ⟨_, Heap.get?_push_size _ rfl, rfl, _, rfl⟩⟩, rfl, q _ (I5.hok.fresh (Nat.le_refl _))⟩
end
theorem pg_seq {X : Cx} {es : List Expr} {k : Nat} {pos : Pos} {t : TGs} {n : Nat} (hc : X.calm = true) (h : PGs X es t) (hn : (assignEach es X.env).length = n) (hs : (assignEach es X.env).findIdx? (·.1) = none) :
    PG X (.Tuple es k pos) (fun v σ H Q => gTup X.K n t v σ H Q ∨ gLst X.K n t v σ H Q) := by
  constructor
  intro pins s σ H v u Q I r hw
  rcases hw with hw | hw
  · exact (pg_tup hc h hn hs).run pins s σ H v u Q I r hw
  · exact (pg_lst hc h hn hs).run pins s σ H v u Q I r hw
/-! repr -/
theorem cr_repr {X : Cx} (gd : X.A.guards = some []) (hu : X.A.units + 70 < cLine) : CallR X (.builtin "repr") (fun xs H Q => ∃ (x : V) (d : PyData), xs = [x] ∧ Dp X.K H x d ∧ d.plain = true ∧ d.depth ≤ 60 ∧ d.showable = true ∧ d.hasDict = false ∧ d.shown.length ≤ sizeLine ∧ Q (.str d.shown) H) := by
  intro pins s σ H xs us Q I r h
  obtain ⟨x, d, rfl, hd, hp, dd, hs, hh, hz, q⟩ := h
  obtain ⟨u, rfl, t⟩ := vals1 r
  obtain ⟨as, r1⟩ := Dp.reads I d x u hd t
  cases r1 with
  | none =>
    refine PySem.P.repr_of_none ⟨.str _, H, I.tok _, ⟨_, rfl⟩, ?_⟩
    simpa only [PyData.shown] using q
  | bool b =>
    refine PySem.P.repr_of_bool ⟨.str _, H, I.tok _, ⟨_, rfl⟩, ?_⟩
    simpa only [PyData.shown] using q
  | int i tk =>
    refine PySem.P.repr_of_int (by simpa [PyData.showable] using hs) ⟨.str _, H, I.tok _, ⟨_, rfl⟩, ?_⟩
    simpa only [PyData.shown] using q
  | str y tk =>
    refine PySem.P.repr_of_str ⟨.str _, H, I.tok _, ⟨_, rfl⟩, ?_⟩ (by simpa only [PyData.shown] using hz)
    simpa only [PyData.shown] using q
  | list h1 h2 h3 h4 =>
    exact repr_of_reads' (.list h1 h2 h3 h4) hs (PyData.noDict_hsm hh) gd (by omega) (fun _ _ z => z) (fun h2 u tk k => ⟨.str _, H, I.kept k, ⟨_, rfl⟩, q⟩) hz
  | tuple h1 h2 h3 h4 =>
    exact repr_of_reads' (.tuple h1 h2 h3 h4) hs (PyData.noDict_hsm hh) gd (by omega) (fun _ _ z => z) (fun h2 u tk k => ⟨.str _, H, I.kept k, ⟨_, rfl⟩, q⟩) hz
  | dict h1 h2 h3 h4 h5 => simp [PyData.plain] at hp
end Iv
end

section
set_option Elab.async false
set_option linter.all false
set_option autoImplicit false
set_option maxRecDepth 100000
/-! Iv: sorted of ints and of pairs that stand anywhere -/
namespace Iv
open PySem PySem.Spec PyProof.Rows L2
/-! there is just one sorted list -/
theorem insI_perm (x : Int) : ∀ l : List Int, (insI x l).Perm (x :: l)
  | [] => .refl _
  | y :: r => by
    unfold insI
    split
    · exact .refl _
    · exact ((insI_perm x r).cons y).trans (.swap x y r)
theorem isort_perm : ∀ l : List Int, (isort l).Perm l
  | [] => .refl _
  | x :: r => (insI_perm x (isort r)).trans ((isort_perm r).cons x)
theorem insI_srt (x : Int) : ∀ l : List Int, l.Pairwise (· ≤ ·) → (insI x l).Pairwise (· ≤ ·)
  | [], _ => List.pairwise_singleton _ _
  | y :: r, h => by
    unfold insI
    obtain ⟨h1, h2⟩ := List.pairwise_cons.mp h
    split
    · rename_i c
      refine List.pairwise_cons.mpr ⟨fun z hz => ?_, h⟩
      rcases List.mem_cons.mp hz with q | q
      · rw [q]; exact c
      · exact Int.le_trans c (h1 z q)
    · rename_i c
      refine List.pairwise_cons.mpr ⟨fun z hz => ?_, insI_srt x r h2⟩
      rcases List.mem_cons.mp ((insI_perm x r).mem_iff.mp hz) with q | q
      · rw [q]; omega
      · exact h1 z q
theorem isort_srt : ∀ l : List Int, (isort l).Pairwise (· ≤ ·)
  | [] => .nil
  | x :: r => insI_srt x _ (isort_srt r)
theorem uniqI : ∀ (l m : List Int), l.Pairwise (· ≤ ·) → m.Pairwise (· ≤ ·) → l.Perm m → l = m
  | [], m, _, _, h => (List.Perm.eq_nil h.symm).symm
  | x :: l, [], _, _, h => absurd h.length_eq (by simp)
  | x :: l, y :: m, hl, hm, h => by
    obtain ⟨l1, l2⟩ := List.pairwise_cons.mp hl
    obtain ⟨m1, m2⟩ := List.pairwise_cons.mp hm
    have a : x ≤ y := by
      rcases List.mem_cons.mp (h.symm.mem_iff.mp (List.mem_cons_self (a := y) (l := m))) with q | q
      · omega
      · exact l1 y q
    have b : y ≤ x := by
      rcases List.mem_cons.mp (h.mem_iff.mp (List.mem_cons_self (a := x) (l := l))) with q | q
      · omega
      · exact m1 x q
    have e : x = y := by omega
    subst e
    rw [uniqI l m l2 m2 h.cons_inv]
def leQ (x y : Int × Int) : Prop := x.1 < y.1 ∨ (x.1 = y.1 ∧ x.2 ≤ y.2)
theorem leP_iff {x y : Int × Int} : leP x y = true ↔ leQ x y := by
  unfold leP leQ
  simp only [Bool.or_eq_true, Bool.and_eq_true, decide_eq_true_eq]
theorem insP_perm (x : Int × Int) : ∀ l : List (Int × Int), (insP x l).Perm (x :: l)
  | [] => .refl _
  | y :: r => by
    unfold insP
    split
    · exact .refl _
    · exact ((insP_perm x r).cons y).trans (.swap x y r)
theorem psort_perm : ∀ l : List (Int × Int), (psort l).Perm l
  | [] => .refl _
  | x :: r => (insP_perm x (psort r)).trans ((psort_perm r).cons x)
theorem insP_srt (x : Int × Int) : ∀ l : List (Int × Int), l.Pairwise leQ → (insP x l).Pairwise leQ
  | [], _ => List.pairwise_singleton _ _
  | y :: r, h => by
    unfold insP
    obtain ⟨h1, h2⟩ := List.pairwise_cons.mp h
    split
    · rename_i c
      have c := leP_iff.mp c
      refine List.pairwise_cons.mpr ⟨fun z hz => ?_, h⟩
      rcases List.mem_cons.mp hz with q | q
      · rw [q]; exact c
      · have := h1 z q
        unfold leQ at *
        omega
    · rename_i c
      have c : ¬ leQ x y := fun z => c (leP_iff.mpr z)
      refine List.pairwise_cons.mpr ⟨fun z hz => ?_, insP_srt x r h2⟩
      rcases List.mem_cons.mp ((insP_perm x r).mem_iff.mp hz) with q | q
      · rw [q]
        unfold leQ at *
        omega
      · exact h1 z q
theorem psort_srt : ∀ l : List (Int × Int), (psort l).Pairwise leQ
  | [] => .nil
  | x :: r => insP_srt x _ (psort_srt r)
theorem leQ_anti {x y : Int × Int} (h : leQ x y) (h' : leQ y x) : x = y := by
  unfold leQ at h h'
  exact Prod.ext (by omega) (by omega)
theorem leQ_refl (x : Int × Int) : leQ x x := .inr ⟨rfl, Int.le_refl _⟩
theorem uniqP : ∀ (l m : List (Int × Int)), l.Pairwise leQ → m.Pairwise leQ → l.Perm m → l = m
  | [], m, _, _, h => (List.Perm.eq_nil h.symm).symm
  | x :: l, [], _, _, h => absurd h.length_eq (by simp)
  | x :: l, y :: m, hl, hm, h => by
    obtain ⟨l1, l2⟩ := List.pairwise_cons.mp hl
    obtain ⟨m1, m2⟩ := List.pairwise_cons.mp hm
    have a : leQ x y := by
      rcases List.mem_cons.mp (h.symm.mem_iff.mp (List.mem_cons_self (a := y) (l := m))) with q | q
      · rw [q]; exact leQ_refl _
      · exact l1 y q
    have b : leQ y x := by
      rcases List.mem_cons.mp (h.mem_iff.mp (List.mem_cons_self (a := x) (l := l))) with q | q
      · rw [q]; exact leQ_refl _
      · exact m1 x q
    have e := leQ_anti a b
    subst e
    rw [uniqP l m l2 m2 h.cons_inv]
/-! the rule -/
def IsPr (K : PySem.W.Frag) (H : Hp) (x : V) (p : Int × Int) : Prop := ∃ t, x = V.ref t ∧ SqT K H t [.int p.1, .int p.2]
inductive Prs (K : PySem.W.Frag) (H : Hp) : List V → List (Int × Int) → Prop
  | nil : Prs K H [] []
  | cons {x : V} {xs : List V} {p : Int × Int} {ps : List (Int × Int)} : IsPr K H x p → Prs K H xs ps → Prs K H (x :: xs) (p :: ps)
theorem Prs.mem {K : PySem.W.Frag} {H : Hp} : ∀ {xs : List V} {ps : List (Int × Int)}, Prs K H xs ps → ∀ x ∈ xs, ∃ p, IsPr K H x p
  | _, _, .cons h r, x, hx => by
    rcases List.mem_cons.mp hx with q | q
    · rw [q]; exact ⟨_, h⟩
    · exact Prs.mem r x q
def rSortedT (K : PySem.W.Frag) : List V → Hp → VK → Prop := fun vs H Q => ∃ (a : Addr) (xs : List V) (ps : List (Int × Int)), vs = [V.ref a] ∧ SqL K H a xs ∧ Prs K H xs ps ∧
  ∀ ys p, Prs K H ys (psort ps) → H p = none → Q (.ref p) (upd H p (.lst ys))
open Classical in
noncomputable def keyV (K : PySem.W.Frag) (H : Hp) (x : V) : Int × Int := if h : ∃ p, IsPr K H x p then choose h else (0, 0)
theorem keyV_ok {K : PySem.W.Frag} {H : Hp} {x : V} (h : ∃ p, IsPr K H x p) : IsPr K H x (keyV K H x) := by
  unfold keyV
  rw [dif_pos h]
  exact Classical.choose_spec h
theorem prs_key {K : PySem.W.Frag} {H : Hp} : ∀ {ys : List V}, (∀ y ∈ ys, ∃ p, IsPr K H y p) → Prs K H ys (ys.map (keyV K H))
  | [], _ => .nil
  | y :: r, h => .cons (keyV_ok (h y (List.mem_cons_self ..))) (prs_key fun z hz => h z (List.mem_cons_of_mem _ hz))
theorem keys_prs {K : PySem.W.Frag} {H : Hp} (hu : ∀ x p q, IsPr K H x p → IsPr K H x q → p = q) : ∀ {xs : List V} {ps : List (Int × Int)}, Prs K H xs ps → xs.map (keyV K H) = ps
  | _, _, .nil => rfl
  | _, _, .cons h r => by
    rw [List.map_cons, keys_prs hu r, hu _ _ _ (keyV_ok ⟨_, h⟩) h]
section
variable {X : Cx}
theorem cr_sortedT : CallR X (.builtin "sorted") (rSortedT X.K) := by
  intro pins s σ H vs us Q I r h
  obtain ⟨a, xs, ps, rfl, hs, hx, q⟩ := h
  have hu : ∀ x p q, IsPr X.K H x p → IsPr X.K H x q → p = q := by
    rintro x p q ⟨t, rfl, h1⟩ ⟨t', e, h2⟩
    cases e
    have := I.tuple_inj h1 h2
    injection this with e1 e2
    injection e2 with e2 _
    injection e1 with e1
    injection e2 with e2
    exact Prod.ext e1 e2
  obtain ⟨its, rv, hl, hz⟩ := I.list hs
  obtain ⟨u, rfl, ru⟩ := vals1 r
  obtain rfl : u = Value.ref a := ru
  obtain ⟨e1, e2⟩ := refs_back rv fun x m => by
    obtain ⟨p, t, e, _⟩ := hx.mem x m
    exact ⟨t, e⟩
  refine SrtO.sorted_pairsO (k := fun u => keyV X.K H (backV u)) hl.isList (by rw [← rv.length]; exact hz) (fun v hv => ?_) fun h' d out h1 h2 kp hd hn => ?_
  · obtain ⟨t, rfl⟩ := e2 v hv
    have hm : V.ref t ∈ xs := by rw [e1]; exact List.mem_map.mpr ⟨_, hv, rfl⟩
    obtain ⟨t', e, ht⟩ := keyV_ok (hx.mem _ hm)
    cases e
    obtain ⟨its2, r2, ⟨o, ho, hc, n, hd⟩, _⟩ := I.tuple ht
    obtain ⟨u1, u2, rfl, ri, rj⟩ := vals2 r2
    obtain ⟨t1, rfl⟩ := ri
    obtain ⟨t2, rfl⟩ := rj
    exact ⟨t, o, t1, t2, n, rfl, ho, hc, hd⟩
  · have h3 : ∀ u ∈ out, ∃ a, u = Value.ref a := fun u hu => e2 u (h2.perm.mem_iff.mp hu)
    obtain ⟨n, hn⟩ := hn
    have hb : SrtO.Stb (ltP (keyV X.K H)) (out.map backV) xs := by
      rw [e1]
      exact SrtO.Stb.map (ltP_swo _) backV h2
    have hs2 : SrtO.Srtd (ltP (keyV X.K H)) (out.map backV) := SrtO.srtd_map h1
    have em : (out.map backV).map (keyV X.K H) = psort ps := by
      refine uniqP _ _ ?_ (psort_srt ps) ?_
      · refine List.pairwise_map.mpr (hs2.imp fun {x y} z => ?_)
        have := SrtO.lexB_no.mp z
        unfold leQ
        omega
      · rw [← keys_prs hu hx]
        exact (hb.perm.map _).trans (psort_perm _).symm
    have hp : Prs X.K H (out.map backV) (psort ps) := by
      rw [← em]
      exact prs_key fun y hy => hx.mem y (hb.perm.mem_iff.mp hy)
    refine ⟨.ref d, upd H d (.lst (out.map backV)), I.laid (t' := s.toks) kp hd ⟨?_, out, n, vals_back h3, hn⟩, rfl, q _ d hp (I.hok.fresh hd)⟩
    rw [hb.len]
    exact hz
def rSorted (K : PySem.W.Frag) : List V → Hp → VK → Prop := fun vs H Q => rSortedI K vs H Q ∨ rSortedT K vs H Q
theorem cr_sorted : CallR X (.builtin "sorted") (rSorted X.K) := fun pins s σ H xs us Q I r h => h.elim (cr_sortedI pins s σ H xs us Q I r) (cr_sortedT pins s σ H xs us Q I r)
end
/-! what a value's type is -/
theorem ty_tup {K : PySem.W.Frag} {H : Hp} {a : Addr} {xs : List V} (h : SqT K H a xs) : TyX K H (.ref a) (.type "tuple") := by
  rcases h with (h | ⟨o, h⟩) | ⟨o, its, n, h1, h2, _⟩
  · exact .base (.tup h)
  · exact .fTuple h
  · exact .kTuple h1 h2
end Iv
end

section
set_option Elab.async false
set_option linter.all false
set_option autoImplicit false
set_option maxRecDepth 100000


namespace Iv
open PySem PySem.Spec PyProof.Rows L2

/-! ### values handed out of a def, a def's promise -/
def RO (v : V) (rv : RV) (a : Addr) : Prop := NewA v rv a
def RVO (K : PySem.W.Frag) (g : Gh) (H : Hp) (v : V) : RV → Prop
  | .val d => Rep K g H v d
  | .new ds => ∃ a xs, v = .ref a ∧ ¬ g.F a ∧ ¬ SrcA g a ∧ H a = some (.lst xs) ∧ Reps K g H xs ds
  | .bor _ => False
def spD (K : PySem.W.Frag) (φ : Fn) (n : Nat) : Sp := fun vs H Q _ => vs.length = n ∧ ∃ g ds S r, Reps K g H vs ds ∧ GhOk K g S H ∧ φ ds S = some r ∧
  ∀ v g' H', Step g (fun _ => False) H g' (NewA v r.1) H' → GhOk K g' r.2 H' → RVO K g' H' v r.1 → Q v H'
/-- math.gcd -/
def gcdFn : Fn := fun ds S => match ds with
  | [.int a, .int b] => some (.val (.int ((Int.gcd a b : Nat) : Int)), S)
  | _ => none
structure FnAt (P : Program) (w : World) (K : PySem.W.Frag) (mg : Str → Option Value) (base : Heap) (L : Nat) (x : Str) (φ : Fn) : Prop where
  at_ : (∃ (f : Addr) (fd : FuncData) (ps : List Str) (k : Nat), mg x = some (.ref f) ∧ PySem.W.keepIn K (.ref f) = true ∧ Binds K fd ps [] ∧ k ≤ L ∧ FnG P w K mg base k f fd ps (spD K φ ps.length) ∧ ∀ ds S r, φ ds S = some r → ds.length = ps.length) ∨
    (mg x = some (.builtin "math.gcd") ∧ φ = gcdFn)
theorem fnAt_gcd {P : Program} {w : World} {K : PySem.W.Frag} {mg : Str → Option Value} {base : Heap} {L : Nat} {x : Str} (h : mg x = some (.builtin "math.gcd")) : FnAt P w K mg base L x gcdFn := ⟨.inr ⟨h, rfl⟩⟩
/-- the built-in names that a program must leave alone -/
def Blts : List Str := ["abs", "int", "len", "max", "min", "sum", "tuple", "list", "bool", "range", "enumerate", "all", "any", "repr", "sorted", "isinstance"]
structure CtxOk (X : Cx) (M : Nm) (T : Tab) (sc : Scope) (top : Bool) (L : Nat) : Prop where
  hN : X.N = M.N
  hT : M.T = T.map (·.1)
  nd : M.N.Nodup
  hsc : X.env.scope = sc
  kind : sc.kind = .function
  calm : X.calm = true
  xe : X.xe = fun _ _ => False
  gd : X.A.guards = some []
  room : Room L X.A
  blt : ∀ x ∈ Blts, X.mg x = none
  fns : ∀ (f : Nat) (x : Str) (φ : Fn), T[f]? = some (x, φ) → FnAt X.prog X.w X.K X.mg X.base L x φ
  st : top = true → ∀ x, X.fn x = true

section
variable {X : Cx} {M : Nm} {T : Tab} {sc : Scope} {top : Bool} {L : Nat}
theorem CtxOk.units (C : CtxOk X M T sc top L) : X.A.units + 70 < cLine := by have := C.room.un; omega
theorem CtxOk.vis (C : CtxOk X M T sc top L) {x : Str} (h : visC sc x = true) : Vis X.env.scope x := by
  rw [C.hsc]
  unfold visC at h
  simp only [Bool.or_eq_true, decide_eq_true_eq] at h
  rcases h with (h | h) | h
  · exact .inl h
  · exact .inr (.inl h)
  · exact .inr (.inr h)
theorem nm_dbg {x : Str} (h : nmOk x = true) : (x == ("__debug__" : Str)) = false := by
  unfold nmOk at h
  simp only [Bool.and_eq_true, Bool.not_eq_true'] at h
  exact h.1.1
theorem nm_cd {x : Str} (h : nmOk x = true) : (x == ("__classdict__" : Str)) = false := by
  unfold nmOk at h
  simp only [Bool.and_eq_true, Bool.not_eq_true'] at h
  exact h.1.2
theorem nm_nm {x : Str} (h : nmOk x = true) : x ≠ ("__name__" : Str) := by
  unfold nmOk at h
  simp only [Bool.and_eq_true, Bool.not_eq_true', decide_eq_false_iff_not] at h
  exact h.2
theorem CtxOk.gl (C : CtxOk X M T sc top L) {x : Str} (h : glC sc x = true) : Gl X x ∧ nmOk x = true := by
  unfold glC at h
  simp only [Bool.and_eq_true, decide_eq_true_eq] at h
  refine ⟨?_, h.2⟩
  show X.env.scope.names.lookup x = _
  rw [C.hsc]
  exact h.1

/-! ### what is shown of an expression -/
def Snd (X : Cx) (T : Tab) (e : E) (pe : Expr) : Prop := ∃ t : TE, PE X pe t ∧ ∀ (g : Gh) (env : Env) (S : Sta) (σ : L2.St) (H : Hp) (k : KE) (r : RV × Sta) (Q : VK), IOk X.K g env S σ H → ev T e env S k = some r →
  (∀ v rv g' env' S' H', After X.K g env σ H v rv g' env' S' H' → k rv env' S' = some r → Q v H') → t σ H Q
def SndA (X : Cx) (T : Tab) (es : Es) (pes : List Expr) : Prop := ∃ t : TA, PA X pes t ∧ ∀ (g : Gh) (env : Env) (S : Sta) (σ : L2.St) (H : Hp) (k : KDs) (r : RV × Sta) (Q : List V → Hp → Prop), IOk X.K g env S σ H → evs T es env S k = some r →
  (∀ vs ds g' env' S' H', Step g (OwnA env σ) H g' (OwnA env' σ) H' → IOk X.K g' env' S' σ H' → Reps X.K g' H' vs ds → k ds env' S' = some r → Q vs H') → t σ H Q
theorem asBl_inv {k : KB} {rv : RV} {env : Env} {S : Sta} {r : RV × Sta} (h : asBl k rv env S = some r) : ∃ b, rv = .val (.bl b) ∧ k b env S = some r := by
  unfold asBl at h
  split at h
  · exact ⟨_, rfl, h⟩
  · cases h
theorem asInt_inv {k : Int → Env → Sta → Res} {rv : RV} {env : Env} {S : Sta} {r : RV × Sta} (h : asInt k rv env S = some r) : ∃ i, rv = .val (.int i) ∧ k i env S = some r := by
  unfold asInt at h
  split at h
  · exact ⟨_, rfl, h⟩
  · cases h
section
variable {K : PySem.W.Frag} {g g1 g2 : Gh} {H H1 H2 : Hp} {env env1 env2 : Env} {S S1 S2 : Sta} {σ : L2.St} {v w : V} {rv : RV}
theorem After.bl {b : Bool} (A : After K g env σ H v (.val (.bl b)) g1 env1 S1 H1) : v = .bl b := by
  have h : Rep K g1 H1 v (.bl b) := A.rv
  cases h; rfl
theorem After.int {i : Int} (A : After K g env σ H v (.val (.int i)) g1 env1 S1 H1) : v = .int i := by
  have h : Rep K g1 H1 v (.int i) := A.rv
  cases h; rfl
theorem After.then (A : Step g (OwnA env σ) H g1 (OwnA env1 σ) H1) (B : After K g1 env1 σ H1 w rv g2 env2 S2 H2) : After K g env σ H w rv g2 env2 S2 H2 :=
  ⟨A.trans B.st, B.ok, B.rv, fun a z => A.fresh (B.nw a z)⟩
theorem After.data {d : D} (A : Step g (OwnA env σ) H g1 (OwnA env1 σ) H1) (I : IOk K g1 env1 S1 σ H1) (h : Rep K g1 H1 v d) : After K g env σ H v (.val d) g1 env1 S1 H1 := .of A I h
end

theorem chk_star {M : Nm} {sc : Scope} (e : E) (x : Expr) (p : Pos) : chkE M sc e (.Starred x p) = false := by cases e <;> rfl
theorem chk_slice {M : Nm} {sc : Scope} (e : E) (a b c : Option Expr) (p : Pos) : chkE M sc e (.Slice a b c p) = false := by cases e <;> rfl
theorem chk_set {M : Nm} {sc : Scope} (e : E) (x : List Expr) (k : Nat) (p : Pos) : chkE M sc e (.Set x k p) = false := by cases e <;> rfl
theorem starEach_of {e : E} {pe : Expr} (h : chkE M sc e pe = true) (es : List Expr) (env : PySem.Env) : starEach (pe :: es) env = (false, eval pe env) :: starEach es env := by
  cases pe
  case Starred x p => rw [chk_star] at h; cases h
  all_goals rfl
theorem starEach_nil (env : PySem.Env) : starEach [] env = [] := rfl
theorem plainIx_of {e : E} {pe : Expr} (h : chkE M sc e pe = true) : PlainIx pe := fun o i => by
  cases pe
  case Slice a b c p => rw [chk_slice] at h; cases h
  all_goals rfl
theorem notSet_mark {pe : Expr} (op : CmpOp) (h : notSet pe = true) : behindInMarks op pe = false := by
  cases pe
  case Set => cases h
  all_goals rfl
theorem stars_of {env : PySem.Env} {pos : Pos} : ∀ {es : Es} {l : List Expr}, chkEs M sc es l = true → (backTo pos (starEach l env)).any (·.1) = false
  | .nil, l, h => by
    cases l with
    | nil => rfl
    | cons x q => cases h
  | .cons e r, [], h => by cases h
  | .cons e r, x :: q, h => by
    have h : (chkE M sc e x && chkEs M sc r q) = true := h
    rw [Bool.and_eq_true] at h
    rw [starEach_of h.1 q env]
    have ih := stars_of (env := env) (pos := pos) h.2
    show ((false || (backTo pos (starEach q env)).any (·.1)) = false)
    rw [ih]; rfl

theorem snd_var {i : Nat} {x : Str} {p : Pos} (C : CtxOk X M T sc top L) (h1 : M.N[i]? = some x) (h2 : visC sc x = true) (h3 : nmOk x = true) : Snd X T (.var i) (.Name x p) := by
  refine ⟨_, pe_var (i := i) (by rw [C.hN]; exact h1) (C.vis h2) (nm_dbg h3) (nm_cd h3), fun g env S σ H k r Q I e kq => ?_⟩
  rw [ev_var] at e
  split at e
  · rename_i d q
    obtain ⟨v, e1, e2⟩ := I.val i d q
    exact ⟨v, e1, kq _ _ _ _ _ _ (.data .refl I e2) e⟩
  · rename_i ds q
    obtain ⟨a, xs, e1, e2, e3, e4, e5⟩ := I.own i ds q
    refine ⟨.ref a, e1, kq _ (.bor i) _ _ _ _ ⟨Step.refl.shrink fun b z => ?_, I, e1, fun _ z => absurd z newA_bor⟩ e⟩
    rcases z with z | z
    · exact z
    · exact absurd z newA_bor
  · cases e
theorem snd_const {e : E} {pe : Expr} {v : V} {d : D} (hp : PE X pe (tC v)) (hr : ∀ g H, Rep X.K g H v d) (he : ∀ env S k, ev T e env S k = k (.val d) env S) : Snd X T e pe :=
  ⟨_, hp, fun g env S σ H k r Q I e kq => kq _ _ _ _ _ _ (.data .refl I (hr g H)) ((he env S k).symm.trans e)⟩
theorem sndA_nil : SndA X T .nil [] := ⟨_, pa_nil, fun g env S σ H k r Q I e kq => kq [] [] g env S H .refl I .nil e⟩
theorem sndA_cons {e : E} {pe : Expr} {es : Es} {pes : List Expr} (h : chkE M sc e pe = true) (A : Snd X T e pe) (B : SndA X T es pes) : SndA X T (.cons e es) (pe :: pes) := by
  obtain ⟨ta, pa, fa⟩ := A
  obtain ⟨tb, pb, fb⟩ := B
  refine ⟨_, pa_cons pa pb (starEach_of h pes X.env), fun g env S σ H k r Q I e kq => ?_⟩
  have e : (ev T _ env S fun rv env S => toD rv env S fun d env S => evs T es env S fun ds env S => k (d :: ds) env S) = some r := e
  refine fa _ _ _ _ _ _ _ _ I e fun v rv g1 env1 S1 H1 A1 e1 => ?_
  obtain ⟨d, g2, env2, A2, e2⟩ := A1.toD e1
  refine fb _ _ _ _ _ _ _ _ A2.ok e2 fun vs ds g3 env3 S3 H3 st I3 R3 e3 => ?_
  exact kq (v :: vs) (d :: ds) _ _ _ _ (A2.st.trans st) I3 (.cons (A2.rep.step st A2.ok.FO) R3) e3
theorem snd_tup {es : Es} {pes : List Expr} {k0 : Nat} {p : Pos} (A : SndA X T es pes) : Snd X T (.tup es) (.Tuple pes k0 p) := by
  obtain ⟨ta, pa, fa⟩ := A
  refine ⟨_, pe_tup pa, fun g env S σ H k r Q I e kq => ?_⟩
  rw [ev_tup] at e
  refine fa _ _ _ _ _ _ _ _ I e fun vs ds g1 env1 S1 H1 st I1 R e1 => ?_
  split at e1
  · rename_i hl
    refine ⟨?_, fun q hq => kq _ _ _ _ _ _ (.tup st I1 hq R) e1⟩
    rw [R.length, sizeLine_eq]; exact hl
  · cases e1
theorem snd_lst {es : Es} {pes : List Expr} {p : Pos} (A : SndA X T es pes) : Snd X T (.lst es) (.List pes p) := by
  obtain ⟨ta, pa, fa⟩ := A
  refine ⟨_, pe_lst pa, fun g env S σ H k r Q I e kq => ?_⟩
  rw [ev_lst] at e
  refine fa _ _ _ _ _ _ _ _ I e fun vs ds g1 env1 S1 H1 st I1 R e1 => ?_
  split at e1
  · rename_i hl
    refine ⟨?_, fun q hq => kq _ _ _ _ _ _ (.lst st I1 hq R) e1⟩
    rw [R.length, sizeLine_eq]; exact hl
  · cases e1
/-! ### operators -/
def DivC (_ j : Int) : Prop := divOk j = true
def ModC (_ j : Int) : Prop := j ≠ 0
def MulC (i j : Int) : Prop := mulOk i j = true
def binR (K : PySem.W.Frag) : Op → R2
  | .add => fun x y H Q => rI0 (fun i j => .int (i + j)) x y H Q ∨ (∃ i j : Str, x = .str i ∧ y = .str j ∧ i.length + j.length ≤ sizeLine ∧ Q (.str (i ++ j)) H) ∨ rCatA K x y H Q ∨ rCat x y H Q
  | .sub => rI0 (fun i j => .int (i - j))
  | .mul => fun x y H Q => rI MulC (fun i j => .int (i * j)) x y H Q ∨ rRep x y H Q
  | .fdiv => rI DivC (fun i j => .int (fdivI i j))
  | .mod => rI ModC (fun i j => .int (fmodI i j))
  | .pow => rI CPow (fun i j => .int (i ^ j.toNat))
  | .shl => rI CPow (fun i j => .int (i * 2 ^ j.toNat))
theorem binR_ok {op : Op} {o : Operator} (h : opIs op o = true) : OpR X (binaryOp o) (binR X.K op) := by
  cases op <;> cases o <;> first
    | exact absurd h Bool.false_ne_true
    | exact op_add.or (op_add_str.or (op_catA.or op_cat))
    | exact op_sub
    | exact op_mulX.or op_rep
    | exact op_divX
    | exact op_modX
    | exact op_pow
    | exact op_shl
theorem reps_eq {K : PySem.W.Frag} {g : Gh} {H : Hp} {xs : List V} {ds : List D} (R : Reps K g H xs ds) : ∀ n : Nat, Reps K g H (List.replicate n xs).flatten (reps ds n)
  | 0 => .nil
  | n + 1 => by
    rw [List.replicate_succ, List.flatten_cons, reps]
    exact R.append (reps_eq R n)
theorem bin_snd {K : PySem.W.Frag} {op : Op} {x y : D} {vx vy : V} {rv : RV} {g g1 : Gh} {env env1 : Env} {S1 : Sta} {σ : L2.St} {H H1 : Hp} {Q : VK}
    (st : Step g (OwnA env σ) H g1 (OwnA env1 σ) H1) (I : IOk K g1 env1 S1 σ H1) (hx : PRep K g1 H1 vx x) (hy : PRep K g1 H1 vy y) (e : bin op x y = some rv) (kq : ∀ v H', After K g env σ H v rv g1 env1 S1 H' → Q v H') :
    binR K op vx vy H1 Q := by
  unfold bin at e
  split at e
  · cases e
    exact .inl ⟨_, _, hx.toInt, hy.toInt, kq _ _ (.data st I (.int _))⟩
  · split at e
    · cases e
      exact .inr (.inl ⟨_, _, hx.toStr, hy.toStr, by rw [sizeLine_eq]; assumption, kq _ _ (.data st I (.str _))⟩)
    · cases e
  · split at e
    · rename_i hl
      cases e
      obtain ⟨a, xs, rfl, h1, h2⟩ := hx.toTup
      obtain ⟨b, ys, rfl, h3, h4⟩ := hy.toTup
      refine .inr (.inr (.inl ⟨a, b, xs, ys, rfl, rfl, h1, h3, by rw [h2.length, h4.length, sizeLine_eq]; exact hl, fun z => ?_, fun _ z => ?_, fun _ _ p hp => ?_⟩))
      · subst z
        cases h2
        exact kq _ _ (.data st I (.tup h3 h4))
      · subst z
        cases h4
        rw [List.append_nil] at kq
        exact kq _ _ (.data st I (.tup h1 h2))
      · exact kq _ _ (.tup st I hp (h2.append h4))
    · cases e
  · split at e
    · rename_i hl
      cases e
      obtain ⟨a, xs, rfl, h1, h2⟩ := hx.toLst
      obtain ⟨b, ys, rfl, h3, h4⟩ := hy.toLst
      exact .inr (.inr (.inr ⟨a, b, xs, ys, rfl, rfl, h1, h3, by rw [h2.length, h4.length, sizeLine_eq]; exact hl, fun p hp => kq _ _ (.lst st I hp (h2.append h4))⟩))
    · cases e
  · cases e
    exact ⟨_, _, hx.toInt, hy.toInt, kq _ _ (.data st I (.int _))⟩
  · split at e
    · rename_i hl
      cases e
      exact .inl ⟨_, _, hx.toInt, hy.toInt, hl, kq _ _ (.data st I (.int _))⟩
    · cases e
  · split at e
    · rename_i hl
      cases e
      simp only [Bool.and_eq_true, decide_eq_true_eq] at hl
      obtain ⟨a, xs, rfl, h1, h2⟩ := hx.toLst
      refine .inr ⟨a, _, xs, rfl, hy.toInt, h1, by omega, by omega, by rw [h2.length, sizeLine_eq]; exact hl.2, fun p hp => kq _ _ (.lst st I hp (reps_eq h2 _))⟩
    · cases e
  · split at e
    · rename_i hl
      cases e
      exact ⟨_, _, hx.toInt, hy.toInt, hl, kq _ _ (.data st I (.int _))⟩
    · cases e
  · split at e
    · cases e
    · rename_i hl
      cases e
      exact ⟨_, _, hx.toInt, hy.toInt, hl, kq _ _ (.data st I (.int _))⟩
  · split at e
    · rename_i hl
      cases e
      unfold powOk at hl
      simp only [Bool.and_eq_true, decide_eq_true_eq] at hl
      exact ⟨_, _, hx.toInt, hy.toInt, ⟨hl.1.1, hl.1.2, by omega⟩, kq _ _ (.data st I (.int _))⟩
    · cases e
  · split at e
    · rename_i hl
      cases e
      unfold powOk at hl
      simp only [Bool.and_eq_true, decide_eq_true_eq] at hl
      exact ⟨_, _, hx.toInt, hy.toInt, ⟨hl.1.1, hl.1.2, by omega⟩, kq _ _ (.data st I (.int _))⟩
    · cases e
  · cases e
theorem giveRV_inv {k : KE} {o : Option RV} {env : Env} {S : Sta} {r : RV × Sta} (h : giveRV k o env S = some r) : ∃ rv, o = some rv ∧ k rv env S = some r := by
  unfold giveRV at h
  split at h
  · exact ⟨_, rfl, h⟩
  · cases h
theorem giveBl_inv {k : KE} {o : Option Bool} {env : Env} {S : Sta} {r : RV × Sta} (h : giveBl k o env S = some r) : ∃ b, o = some b ∧ k (.val (.bl b)) env S = some r := by
  unfold giveBl at h
  split at h
  · exact ⟨_, rfl, h⟩
  · cases h
theorem snd_bin {op : Op} {o : Operator} {a b : E} {x y : Expr} {p : Pos} (ho : opIs op o = true) (A : Snd X T a x) (B : Snd X T b y) : Snd X T (.bin op a b) (.BinOp x o y p) := by
  obtain ⟨ta, pa, fa⟩ := A
  obtain ⟨tb, pb, fb⟩ := B
  refine ⟨_, pe_op (binR_ok ho) pa pb, fun g env S σ H k r Q I e kq => ?_⟩
  rw [ev_bin] at e
  refine fa _ _ _ _ _ _ _ _ I e fun v ra g1 env1 S1 H1 A1 e1 => ?_
  refine fb _ _ _ _ _ _ _ _ A1.ok e1 fun w rb g2 env2 S2 H2 A2 e2 => ?_
  obtain ⟨st, rv1⟩ := A1.two A2
  split at e2
  · rename_i dx q1
    split at e2
    · rename_i dy q2
      obtain ⟨rv, q3, e3⟩ := binK_inv e2
      exact bin_snd st A2.ok (look_prep A2.ok rv1 q1) (look_prep A2.ok A2.rv q2) q3 fun v H' A3 => kq _ _ _ _ _ _ A3 e3
    · cases e2
  · cases e2

/-! ### comparisons -/
def cmpR (K : PySem.W.Frag) : COp → R2
  | .eq => rEqP K
  | .ne => rNeP K
  | .lt => rI0 fun i j => .bl (decide (i < j))
  | .le => rI0 fun i j => .bl (decide (i ≤ j))
  | .gt => rI0 fun i j => .bl (decide (j < i))
  | .ge => rI0 fun i j => .bl (decide (j ≤ i))
  | .isn => fun x y H Q => y = .non ∧ Q (.bl (decide (x = .non))) H
  | .notn => fun x y H Q => y = .non ∧ Q (.bl (!decide (x = .non))) H
  | .isb => rIsB
  | .notb => rNotB
  | .isin => rInP K false
  | .notin => rInP K true
theorem cmpR_ok {op : COp} {o : CmpOp} (hu : X.A.units + 70 < cLine) (h : copIs op o = true) : OpR X (compareOp o) (cmpR X.K op) := by
  cases op <;> cases o <;> first
    | exact absurd h Bool.false_ne_true
    | exact op_eqP hu
    | exact op_neP hu
    | exact op_lt
    | exact op_le
    | exact op_gt
    | exact op_ge
    | exact op_isN
    | exact op_notN
    | exact op_isBl
    | exact op_notBl
    | exact op_inP hu
    | exact op_notinP hu
section
variable {K : PySem.W.Frag} {g : Gh} {H : Hp} {vx vy : V} {x y : D} {b : Bool} {Q : VK}
theorem deq_snd (hx : PRep K g H vx x) (hy : PRep K g H vy y) (e : deq x y = some b) : ∃ d e : PyData, Dp K H vx d ∧ Dp K H vy e ∧ d.plain = true ∧ e.plain = true ∧ d.depth ≤ 60 ∧ PyData.eqv d e = b := by
  unfold deq at e
  split at e
  · rename_i i j
    cases e
    refine ⟨_, _, hx.dp (n := 60) rfl, hy.dp (n := 60) rfl, rfl, rfl, Nat.zero_le _, ?_⟩
    show (i == j) = _
    by_cases q : i = j
    · subst q; simp
    · simp [q]
  · rename_i x y
    split at e
    · rename_i q
      cases e
      rw [hx.toRep, hy.toRep]
      refine ⟨_, _, .str _, .str _, rfl, rfl, Nat.zero_le _, ?_⟩
      rw [same_py _ _ q]
      show ((y.py.shown) == (y.py.shown)) = true
      simp
    · cases e
  · split at e
    · rename_i q
      simp only [Bool.and_eq_true] at q
      cases e
      obtain ⟨p1, p2⟩ := fit_plain 60 x q.1
      obtain ⟨p3, p4⟩ := fit_plain 60 y q.2
      exact ⟨_, _, hx.dp q.1, hy.dp q.2, p1, p3, p2, rfl⟩
    · cases e
theorem in_snd {neg : Bool} {ys : List D} (hx : PRep K g H vx x) (hy : PRep K g H vy (.lst ys) ∨ PRep K g H vy (.tup ys)) (f1 : fit 60 x = true) (f2 : fits 60 ys = true) (q : Q (.bl (if neg then !(ys.any fun y => PyData.eqv y.py x.py) else ys.any fun y => PyData.eqv y.py x.py)) H) :
    rInP K neg vx vy H Q := by
  obtain ⟨p1, p2⟩ := fit_plain 60 x f1
  obtain ⟨p3, p4⟩ := fits_plain 60 ys f2
  have e : ∀ l : List D, ((pys l).any fun z => PyData.eqv z x.py) = l.any fun y => PyData.eqv y.py x.py := by
    intro l
    induction l with
    | nil => rfl
    | cons a l ih => rw [pys, List.any_cons, List.any_cons, ih]
  refine ⟨x.py, pys ys, hx.dp f1, ?_, p1, p3, p2, by rw [e]; exact q⟩
  rcases hy with hy | hy
  · refine .inl ?_
    have := hy.dp (n := 61) (by simpa [fit] using f2)
    rw [D.py] at this; exact this
  · refine .inr ?_
    have := hy.dp (n := 61) (by simpa [fit] using f2)
    rw [D.py] at this; exact this
theorem cmp_snd {op : COp} (hx : PRep K g H vx x) (hy : PRep K g H vy y) (e : cmp op x y = some b) (q : Q (.bl b) H) : cmpR K op vx vy H Q := by
  unfold cmp at e
  split at e
  · obtain ⟨d, e', h1, h2, h3, h4, h5, h6⟩ := deq_snd hx hy e
    subst h6
    exact ⟨d, e', h1, h2, h3, h4, h5, q⟩
  · cases q1 : deq x y with
    | none => rw [q1] at e; cases e
    | some c =>
      rw [q1] at e
      cases e
      obtain ⟨d, e', h1, h2, h3, h4, h5, h6⟩ := deq_snd hx hy q1
      subst h6
      exact ⟨d, e', h1, h2, h3, h4, h5, q⟩
  · cases e; exact ⟨_, _, hx.toInt, hy.toInt, q⟩
  · cases e; exact ⟨_, _, hx.toInt, hy.toInt, q⟩
  · cases e; exact ⟨_, _, hx.toInt, hy.toInt, q⟩
  · cases e; exact ⟨_, _, hx.toInt, hy.toInt, q⟩
  · refine ⟨hy.toNon, ?_⟩
    split at e
    · cases e
      rw [hx.toNon]; exact q
    · rename_i n
      cases e
      rw [decide_eq_false (hx.notNon fun z => n z)]; exact q
  · refine ⟨hy.toNon, ?_⟩
    split at e
    · cases e
      rw [hx.toNon]; exact q
    · rename_i n
      cases e
      rw [decide_eq_false (hx.notNon fun z => n z)]; exact q
  · cases e
    refine ⟨_, _, hx.toBl, hy.toBl, ?_⟩
    rename_i a c
    have : decide (a = c) = (a == c) := by cases a <;> cases c <;> rfl
    rw [this]; exact q
  · cases e
    refine ⟨_, _, hx.toBl, hy.toBl, ?_⟩
    rename_i a c
    have : decide (a = c) = (a == c) := by cases a <;> cases c <;> rfl
    rw [this]; exact q
  · split at e
    · rename_i f
      simp only [Bool.and_eq_true] at f
      cases e
      exact in_snd hx (.inr hy) f.1 f.2 (by simpa using q)
    · cases e
  · split at e
    · rename_i f
      simp only [Bool.and_eq_true] at f
      cases e
      exact in_snd hx (.inl hy) f.1 f.2 (by simpa using q)
    · cases e
  · split at e
    · rename_i f
      simp only [Bool.and_eq_true] at f
      cases e
      exact in_snd hx (.inr hy) f.1 f.2 (by simpa using q)
    · cases e
  · split at e
    · rename_i f
      simp only [Bool.and_eq_true] at f
      cases e
      exact in_snd hx (.inl hy) f.1 f.2 (by simpa using q)
    · cases e
  · cases e
end
theorem snd_cmp {op : COp} {o : CmpOp} {a b : E} {x y : Expr} {p : Pos} (hu : X.A.units + 70 < cLine) (ho : copIs op o = true) (hm : notSet y = true) (A : Snd X T a x) (B : Snd X T b y) : Snd X T (.cmp op a b) (.Compare x [o] [y] p) := by
  obtain ⟨ta, pa, fa⟩ := A
  obtain ⟨tb, pb, fb⟩ := B
  refine ⟨_, pe_cmpR (cmpR_ok hu ho) pa pb (notSet_mark o hm), fun g env S σ H k r Q I e kq => ?_⟩
  rw [ev_cmp] at e
  refine fa _ _ _ _ _ _ _ _ I e fun v ra g1 env1 S1 H1 A1 e1 => ?_
  refine fb _ _ _ _ _ _ _ _ A1.ok e1 fun w rb g2 env2 S2 H2 A2 e2 => ?_
  obtain ⟨st, rv1⟩ := A1.two A2
  split at e2
  · rename_i dx q1
    split at e2
    · rename_i dy q2
      obtain ⟨rv, q3, e3⟩ := giveBl_inv e2
      exact cmp_snd (look_prep A2.ok rv1 q1) (look_prep A2.ok A2.rv q2) q3 (kq _ _ _ _ _ _ (.data st A2.ok (.bl _)) e3)
    · cases e2
  · cases e2
theorem snd_neg {a : E} {x : Expr} {p : Pos} (A : Snd X T a x) : Snd X T (.neg a) (.UnaryOp .USub x p) := by
  obtain ⟨ta, pa, fa⟩ := A
  refine ⟨_, pe_un un_neg pa, fun g env S σ H k r Q I e kq => ?_⟩
  rw [ev_neg] at e
  refine fa _ _ _ _ _ _ _ _ I e fun v ra g1 env1 S1 H1 A1 e1 => ?_
  obtain ⟨i, rfl, e2⟩ := asInt_inv e1
  exact ⟨i, A1.int, kq _ _ _ _ _ _ (.data A1.one A1.ok (.int _)) e2⟩
theorem snd_not {a : E} {x : Expr} {p : Pos} (A : Snd X T a x) : Snd X T (.not a) (.UnaryOp .Not x p) := by
  obtain ⟨ta, pa, fa⟩ := A
  refine ⟨_, pe_not pa, fun g env S σ H k r Q I e kq => ?_⟩
  rw [ev_not] at e
  refine fa _ _ _ _ _ _ _ _ I e fun v ra g1 env1 S1 H1 A1 e1 => ?_
  obtain ⟨i, rfl, e2⟩ := asBl_inv e1
  exact ⟨i, A1.bl, kq _ _ _ _ _ _ (.data A1.one A1.ok (.bl _)) e2⟩
theorem iteBT {A B : Prop} (h : A) : if true = true then A else B := h
theorem iteBF {A B : Prop} (h : B) : if false = true then A else B := h
theorem snd_and {a b : E} {x y : Expr} {r0 : List Expr} {p : Pos} (A : Snd X T a x) (B : Snd X T b (.BoolOp .And (y :: r0) p)) : Snd X T (.and a b) (.BoolOp .And (x :: y :: r0) p) := by
  obtain ⟨ta, pa, fa⟩ := A
  obtain ⟨tb, pb, fb⟩ := B
  refine ⟨_, pe_and pa pb, fun g env S σ H k r Q I e kq => ?_⟩
  rw [ev_and] at e
  refine fa _ _ _ _ _ _ _ _ I e fun v ra g1 env1 S1 H1 A1 e1 => ?_
  obtain ⟨c, rfl, e2⟩ := asBl_inv e1
  refine ⟨c, A1.bl, ?_⟩
  cases c with
  | true => exact iteBT (fb _ _ _ _ _ _ _ _ A1.ok e2 fun w rb g2 env2 S2 H2 A2 e3 => kq _ _ _ _ _ _ (.then A1.one A2) e3)
  | false => exact iteBF (kq _ _ _ _ _ _ (.data A1.one A1.ok (.bl _)) e2)
theorem snd_or {a b : E} {x y : Expr} {r0 : List Expr} {p : Pos} (A : Snd X T a x) (B : Snd X T b (.BoolOp .Or (y :: r0) p)) : Snd X T (.or a b) (.BoolOp .Or (x :: y :: r0) p) := by
  obtain ⟨ta, pa, fa⟩ := A
  obtain ⟨tb, pb, fb⟩ := B
  refine ⟨_, pe_or pa pb, fun g env S σ H k r Q I e kq => ?_⟩
  rw [ev_or] at e
  refine fa _ _ _ _ _ _ _ _ I e fun v ra g1 env1 S1 H1 A1 e1 => ?_
  obtain ⟨c, rfl, e2⟩ := asBl_inv e1
  refine ⟨c, A1.bl, ?_⟩
  cases c with
  | false => exact iteBF (fb _ _ _ _ _ _ _ _ A1.ok e2 fun w rb g2 env2 S2 H2 A2 e3 => kq _ _ _ _ _ _ (.then A1.one A2) e3)
  | true => exact iteBT (kq _ _ _ _ _ _ (.data A1.one A1.ok (.bl _)) e2)
theorem snd_one {e : E} {x : Expr} {op : BoolOp} {p : Pos} (A : Snd X T e x) : Snd X T e (.BoolOp op [x] p) := by
  obtain ⟨ta, pa, fa⟩ := A
  exact ⟨_, pe_one pa, fa⟩

/-! ### tests -/
def SndT (X : Cx) (T : Tab) (e : E) (pe : Expr) : Prop := ∃ t : TT, PT X pe t ∧ ∀ (g : Gh) (env : Env) (S : Sta) (σ : L2.St) (H : Hp) (k : KB) (r : RV × Sta) (Q : Bool → Hp → Prop), IOk X.K g env S σ H → ev T e env S (asBl k) = some r →
  (∀ b g' env' S' H', Step g (OwnA env σ) H g' (OwnA env' σ) H' → IOk X.K g' env' S' σ H' → k b env' S' = some r → Q b H') → t σ H Q
theorem sndT_val {e : E} {pe : Expr} (he : ∀ whole, isTrue pe X.env whole = (do let v ← whole; standAt pe.pos; holding [v] (truthy v))) (A : Snd X T e pe) : SndT X T e pe := by
  obtain ⟨ta, pa, fa⟩ := A
  refine ⟨_, pt_val pa he, fun g env S σ H k r Q I e kq => ?_⟩
  refine fa _ _ _ _ _ _ _ _ I e fun v ra g1 env1 S1 H1 A1 e1 => ?_
  obtain ⟨c, rfl, e2⟩ := asBl_inv e1
  exact ⟨c, A1.bl, kq _ _ _ _ _ A1.one A1.ok e2⟩
theorem sndT_cmp {op : COp} {o : CmpOp} {a b : E} {x y : Expr} {p : Pos} (hu : X.A.units + 70 < cLine) (ho : copIs op o = true) (hm : notSet y = true) (A : Snd X T a x) (B : Snd X T b y) : SndT X T (.cmp op a b) (.Compare x [o] [y] p) := by
  obtain ⟨ta, pa, fa⟩ := A
  obtain ⟨tb, pb, fb⟩ := B
  refine ⟨_, pt_cmpR (cmpR_ok hu ho) pa pb (notSet_mark o hm), fun g env S σ H k r Q I e kq => ?_⟩
  rw [ev_cmp] at e
  refine fa _ _ _ _ _ _ _ _ I e fun v ra g1 env1 S1 H1 A1 e1 => ?_
  refine fb _ _ _ _ _ _ _ _ A1.ok e1 fun w rb g2 env2 S2 H2 A2 e2 => ?_
  obtain ⟨st, rv1⟩ := A1.two A2
  split at e2
  · rename_i dx q1
    split at e2
    · rename_i dy q2
      obtain ⟨b, q3, e3⟩ := giveBl_inv e2
      exact cmp_snd (look_prep A2.ok rv1 q1) (look_prep A2.ok A2.rv q2) q3 ⟨b, rfl, kq _ _ _ _ _ st A2.ok e3⟩
    · cases e2
  · cases e2
theorem sndT_not {a : E} {x : Expr} {p : Pos} (A : SndT X T a x) : SndT X T (.not a) (.UnaryOp .Not x p) := by
  obtain ⟨ta, pa, fa⟩ := A
  refine ⟨_, pt_not pa, fun g env S σ H k r Q I e kq => ?_⟩
  rw [ev_not] at e
  exact fa _ _ _ _ _ _ _ _ I e fun b g1 env1 S1 H1 st I1 e1 => kq _ _ _ _ _ st I1 e1
def SndW (X : Cx) (T : Tab) (e : E) (pe : Expr) : Prop := ∃ t : TT, PW X pe t ∧ ∀ (g : Gh) (env : Env) (S : Sta) (σ : L2.St) (H : Hp) (k : KB) (r : RV × Sta) (Q : Bool → Hp → Prop), IOk X.K g env S σ H → ev T e env S (asBl k) = some r →
  (∀ b g' env' S' H', Step g (OwnA env σ) H g' (OwnA env' σ) H' → IOk X.K g' env' S' σ H' → k b env' S' = some r → Q b H') → t σ H Q
theorem SndW.pt {e : E} {pe : Expr} (A : SndW X T e pe) : SndT X T e pe := by
  obtain ⟨ta, pa, fa⟩ := A
  exact ⟨_, pa.pt, fa⟩
theorem sndW_and1 {a : E} {x : Expr} {p : Pos} (A : SndT X T a x) : SndW X T a (.BoolOp .And [x] p) := by
  obtain ⟨ta, pa, fa⟩ := A
  exact ⟨_, pw_and1 pa, fa⟩
theorem sndW_or1 {a : E} {x : Expr} {p : Pos} (A : SndT X T a x) : SndW X T a (.BoolOp .Or [x] p) := by
  obtain ⟨ta, pa, fa⟩ := A
  exact ⟨_, pw_or1 pa, fa⟩
theorem sndW_and {a b : E} {x y : Expr} {r0 : List Expr} {p : Pos} (A : SndT X T a x) (B : SndW X T b (.BoolOp .And (y :: r0) p)) : SndW X T (.and a b) (.BoolOp .And (x :: y :: r0) p) := by
  obtain ⟨ta, pa, fa⟩ := A
  obtain ⟨tb, pb, fb⟩ := B
  refine ⟨_, pw_and pa pb, fun g env S σ H k r Q I e kq => ?_⟩
  rw [ev_and] at e
  refine fa _ _ _ _ _ _ _ _ I e fun c g1 env1 S1 H1 st I1 e1 => ?_
  cases c with
  | true => exact iteBT (fb _ _ _ _ _ _ _ _ I1 e1 fun b g2 env2 S2 H2 st2 I2 e3 => kq _ _ _ _ _ (st.trans st2) I2 e3)
  | false => exact iteBF (kq _ _ _ _ _ st I1 e1)
theorem sndW_or {a b : E} {x y : Expr} {r0 : List Expr} {p : Pos} (A : SndT X T a x) (B : SndW X T b (.BoolOp .Or (y :: r0) p)) : SndW X T (.or a b) (.BoolOp .Or (x :: y :: r0) p) := by
  obtain ⟨ta, pa, fa⟩ := A
  obtain ⟨tb, pb, fb⟩ := B
  refine ⟨_, pw_or pa pb, fun g env S σ H k r Q I e kq => ?_⟩
  rw [ev_or] at e
  refine fa _ _ _ _ _ _ _ _ I e fun c g1 env1 S1 H1 st I1 e1 => ?_
  cases c with
  | false => exact iteBF (fb _ _ _ _ _ _ _ _ I1 e1 fun b g2 env2 S2 H2 st2 I2 e3 => kq _ _ _ _ _ (st.trans st2) I2 e3)
  | true => exact iteBT (kq _ _ _ _ _ st I1 e1)
theorem snd_ite {c a b : E} {t x y : Expr} {p : Pos} (Cc : SndT X T c t) (A : Snd X T a x) (B : Snd X T b y) : Snd X T (.ite c a b) (.IfExp t x y p) := by
  obtain ⟨tc, pc, fc⟩ := Cc
  obtain ⟨ta, pa, fa⟩ := A
  obtain ⟨tb, pb, fb⟩ := B
  refine ⟨_, pe_ifExp pc pa pb, fun g env S σ H k r Q I e kq => ?_⟩
  rw [ev_ite] at e
  refine fc _ _ _ _ _ _ _ _ I e fun b g1 env1 S1 H1 st I1 e1 => ?_
  cases b with
  | true => exact iteBT (fa _ _ _ _ _ _ _ _ I1 e1 fun w rb g2 env2 S2 H2 A2 e3 => kq _ _ _ _ _ _ (.then st A2) e3)
  | false => exact iteBF (fb _ _ _ _ _ _ _ _ I1 e1 fun w rb g2 env2 S2 H2 A2 e3 => kq _ _ _ _ _ _ (.then st A2) e3)
end
end Iv
end

section
set_option Elab.async false
set_option linter.all false
set_option autoImplicit false
set_option maxRecDepth 100000
namespace Iv
open PySem PySem.Spec PyProof.Rows L2
section
variable {X : Cx} {M : Nm} {T : Tab} {sc : Scope} {top : Bool} {L : Nat}

/-! ### chains -/
theorem snd_chain {op op' : COp} {o o' : CmpOp} {a b c : E} {x y z : Expr} {p : Pos} (hu : X.A.units + 70 < cLine) (ho : copIs op o = true) (ho' : copIs op' o' = true) (hm : notSet z = true) (A : Snd X T a x) (B : Snd X T b y) (Cc : Snd X T c z) :
    Snd X T (.chain op op' a b c) (.Compare x [o, o'] [y, z] p) := by
  obtain ⟨ta, pa, fa⟩ := A
  obtain ⟨tb, pb, fb⟩ := B
  obtain ⟨tc, pc, fc⟩ := Cc
  refine ⟨_, pe_chain (cmpR_ok hu ho) (cmpR_ok hu ho') pa pb pc (notSet_mark o' hm), fun g env S σ H k r Q I e kq => ?_⟩
  rw [ev_chain] at e
  refine fa _ _ _ _ _ _ _ _ I e fun v ra g1 env1 S1 H1 A1 e1 => ?_
  obtain ⟨i, rfl, e1'⟩ := asInt_inv e1
  refine fb _ _ _ _ _ _ _ _ A1.ok e1' fun w rb g2 env2 S2 H2 A2 e2' => ?_
  obtain ⟨j, rfl, e2⟩ := asInt_inv e2'
  obtain ⟨st, rv1⟩ := A1.two A2
  have r1 : PRep X.K g2 H2 v (.int i) := .inl rv1
  have r2 : PRep X.K g2 H2 w (.int j) := .inl A2.rv
  split at e2
  · rename_i q
    refine cmp_snd r1 r2 q ⟨true, rfl, iteBT ?_⟩
    refine fc _ _ _ _ _ _ _ _ A2.ok e2 fun u rc g3 env3 S3 H3 A3 e3 => ?_
    obtain ⟨l, rfl, e3'⟩ := asInt_inv e3
    obtain ⟨d, q2, e4⟩ := giveBl_inv e3'
    have r3 : PRep X.K g3 H3 w (.int j) := .inl (Rep.step A3.one A2.ok.FO A2.rv)
    exact cmp_snd r3 (.inl A3.rv) q2 (kq _ _ _ _ _ _ (.data (st.trans A3.one) A3.ok (.bl _)) e4)
  · rename_i q
    exact cmp_snd r1 r2 q ⟨false, rfl, iteBF (kq _ _ _ _ _ _ (.data st A2.ok (.bl _)) e2)⟩
  · cases e2
theorem sndT_chain {op op' : COp} {o o' : CmpOp} {a b c : E} {x y z : Expr} {p : Pos} (hu : X.A.units + 70 < cLine) (ho : copIs op o = true) (ho' : copIs op' o' = true) (hm : notSet z = true) (A : Snd X T a x) (B : Snd X T b y) (Cc : Snd X T c z) :
    SndT X T (.chain op op' a b c) (.Compare x [o, o'] [y, z] p) := by
  obtain ⟨ta, pa, fa⟩ := A
  obtain ⟨tb, pb, fb⟩ := B
  obtain ⟨tc, pc, fc⟩ := Cc
  refine ⟨_, pt_chain (cmpR_ok hu ho) (cmpR_ok hu ho') pa pb pc (notSet_mark o' hm), fun g env S σ H k r Q I e kq => ?_⟩
  rw [ev_chain] at e
  refine fa _ _ _ _ _ _ _ _ I e fun v ra g1 env1 S1 H1 A1 e1 => ?_
  obtain ⟨i, rfl, e1'⟩ := asInt_inv e1
  refine fb _ _ _ _ _ _ _ _ A1.ok e1' fun w rb g2 env2 S2 H2 A2 e2' => ?_
  obtain ⟨j, rfl, e2⟩ := asInt_inv e2'
  obtain ⟨st, rv1⟩ := A1.two A2
  have r1 : PRep X.K g2 H2 v (.int i) := .inl rv1
  have r2 : PRep X.K g2 H2 w (.int j) := .inl A2.rv
  split at e2
  · rename_i q
    refine cmp_snd r1 r2 q ⟨true, rfl, iteBT ?_⟩
    refine fc _ _ _ _ _ _ _ _ A2.ok e2 fun u rc g3 env3 S3 H3 A3 e3 => ?_
    obtain ⟨l, rfl, e3'⟩ := asInt_inv e3
    obtain ⟨d, q2, e4⟩ := giveBl_inv e3'
    have r3 : PRep X.K g3 H3 w (.int j) := .inl (Rep.step A3.one A2.ok.FO A2.rv)
    exact cmp_snd r3 (.inl A3.rv) q2 ⟨d, rfl, kq _ _ _ _ _ (st.trans A3.one) A3.ok e4⟩
  · rename_i q
    exact cmp_snd r1 r2 q ⟨false, rfl, iteBF ⟨false, rfl, kq _ _ _ _ _ st A2.ok e2⟩⟩
  · cases e2

/-! ### subscripts -/
theorem ixOf_eq (n : Nat) (i : Int) : ixOf n i = ixN n i := by
  unfold ixN
  cases i with
  | ofNat k =>
    show (if k < n then some k else none) = _
    rw [if_pos (show 0 ≤ Int.ofNat k from Int.natCast_nonneg k)]
    by_cases h : k < n
    · rw [if_pos h, if_pos (show Int.ofNat k < (n : Int) from Int.ofNat_lt.mpr h)]; rfl
    · rw [if_neg h, if_neg (show ¬ Int.ofNat k < (n : Int) from fun z => h (Int.ofNat_lt.mp z))]
  | negSucc k =>
    show (if k < n then some (n - 1 - k) else none) = _
    rw [if_neg (show ¬ 0 ≤ Int.negSucc k from by omega)]
    by_cases h : k < n
    · rw [if_pos h, if_pos (show -(n : Int) ≤ Int.negSucc k from by omega)]
      congr 1
      omega
    · rw [if_neg h, if_neg (show ¬ -(n : Int) ≤ Int.negSucc k from by omega)]
def rIxD (K : PySem.W.Frag) : R2 := fun x y H Q => rIxL K x y H Q ∨ rIxT K x y H Q
theorem item_snd {K : PySem.W.Frag} {g : Gh} {H : Hp} {vx vy : V} {x y d : D} {Q : VK} (hx : PRep K g H vx x) (hy : PRep K g H vy y) (e : item x y = some d) (q : ∀ v, Rep K g H v d → Q v H) : rIxD K vx vy H Q := by
  unfold item at e
  split at e
  · rename_i xs i
    split at e
    · rename_i j qj
      rw [nth_eq] at e
      obtain ⟨a, vs, rfl, h1, h2⟩ := hx.toLst
      obtain ⟨v, h3, h4⟩ := h2.getD e
      refine .inl ⟨a, vs, i, v, rfl, hy.toInt, SqL.of h1, ?_, q v h4⟩
      unfold atI
      rw [h2.length, ← ixOf_eq, qj]
      exact h3
    · cases e
  · rename_i xs i
    split at e
    · rename_i j qj
      rw [nth_eq] at e
      obtain ⟨a, vs, rfl, h1, h2⟩ := hx.toTup
      obtain ⟨v, h3, h4⟩ := h2.getD e
      refine .inr ⟨a, vs, i, v, rfl, hy.toInt, h1, ?_, q v h4⟩
      unfold atI
      rw [h2.length, ← ixOf_eq, qj]
      exact h3
    · cases e
  · cases e
theorem snd_idx {a i : E} {x y : Expr} {p : Pos} (hp : PlainIx y) (A : Snd X T a x) (B : Snd X T i y) : Snd X T (.idx a i) (.Subscript x y p) := by
  obtain ⟨ta, pa, fa⟩ := A
  obtain ⟨tb, pb, fb⟩ := B
  refine ⟨_, pe_ix (r := rIxD X.K) (ix_list.or ix_tup) pa pb hp, fun g env S σ H k r Q I e kq => ?_⟩
  rw [ev_idx] at e
  refine fa _ _ _ _ _ _ _ _ I e fun v ra g1 env1 S1 H1 A1 e1 => ?_
  refine fb _ _ _ _ _ _ _ _ A1.ok e1 fun w rb g2 env2 S2 H2 A2 e2 => ?_
  obtain ⟨st, rv1⟩ := A1.two A2
  split at e2
  · rename_i dx q1
    split at e2
    · rename_i dy q2
      split at e2
      · rename_i d q3
        exact item_snd (look_prep A2.ok rv1 q1) (look_prep A2.ok A2.rv q2) q3 fun v hv => kq _ _ _ _ _ _ (.data st A2.ok hv) e2
      · cases e2
    · cases e2
  · cases e2
theorem cut_reps {K : PySem.W.Frag} {g : Gh} {H : Hp} {xs : List V} {ds : List D} (R : Reps K g H xs ds) (lo hi : Option Int) : Reps K g H (cutV xs lo hi) (cutD ds lo hi) := by
  unfold cutV cutD
  rw [R.length]
  exact (R.drop _).take _
def rSlD (K : PySem.W.Frag) : V → Option Int → Option Int → Hp → VK → Prop := fun x lo hi H Q => rSlL K x lo hi H Q ∨ rSlA K x lo hi H Q
def SndO (X : Cx) (T : Tab) (o : Option E) (po : Option Expr) : Prop := ∃ t : TO, PO X po t ∧ ∀ (g : Gh) (env : Env) (S : Sta) (σ : L2.St) (H : Hp) (k : Option Int → Env → Sta → Res) (r : RV × Sta) (Q : Option Int → Hp → Prop), IOk X.K g env S σ H → evo T o env S k = some r →
  (∀ i g' env' S' H', Step g (OwnA env σ) H g' (OwnA env' σ) H' → IOk X.K g' env' S' σ H' → k i env' S' = some r → Q i H') → t σ H Q
theorem sndO_none : SndO X T none none := ⟨_, po_none, fun g env S σ H k r Q I e kq => kq none _ _ _ _ .refl I e⟩
theorem sndO_some {e : E} {x : Expr} (A : Snd X T e x) : SndO X T (some e) (some x) := by
  obtain ⟨ta, pa, fa⟩ := A
  refine ⟨_, po_some pa, fun g env S σ H k r Q I e kq => ?_⟩
  have e : ev T _ env S (asInt fun i env S => k (some i) env S) = some r := e
  refine fa _ _ _ _ _ _ _ _ I e fun v ra g1 env1 S1 H1 A1 e1 => ?_
  obtain ⟨i, rfl, e2⟩ := asInt_inv e1
  exact ⟨i, A1.int, kq _ _ _ _ _ A1.one A1.ok e2⟩
theorem snd_slc {a : E} {lo hi : Option E} {x : Expr} {l h : Option Expr} {p p2 : Pos} (A : Snd X T a x) (B : SndO X T lo l) (Cc : SndO X T hi h) : Snd X T (.slc a lo hi) (.Subscript x (.Slice l h none p2) p) := by
  obtain ⟨ta, pa, fa⟩ := A
  obtain ⟨tb, pb, fb⟩ := B
  obtain ⟨tc, pc, fc⟩ := Cc
  refine ⟨_, pe_slice (r := rSlD X.K) (sl_list.or sl_tupA) pa pb pc, fun g env S σ H k r Q I e kq => ?_⟩
  rw [ev_slc] at e
  refine fa _ _ _ _ _ _ _ _ I e fun v ra g1 env1 S1 H1 A1 e1 => ?_
  refine fb _ _ _ _ _ _ _ _ A1.ok e1 fun lo' g2 env2 S2 H2 st2 I2 e2 => ?_
  refine fc _ _ _ _ _ _ _ _ I2 e2 fun hi' g3 env3 S3 H3 st3 I3 e3 => ?_
  have st : Step g1 (OwnA env1 σ) H1 g3 (OwnA env3 σ) H3 := st2.trans st3
  have stA := A1.one.trans st
  have rv1 := A1.rv.step st A1.ok.FO
  split at e3
  · rename_i dx q1
    obtain ⟨rv, q2, e4⟩ := giveRV_inv e3
    have hx := look_prep I3 rv1 q1
    unfold sliced at q2
    split at q2
    · cases q2
      obtain ⟨b, vs, rfl, h1, h2⟩ := hx.toLst
      exact .inl ⟨b, vs, rfl, SqL.of h1, fun q hq => kq _ _ _ _ _ _ (.lst stA I3 hq (cut_reps h2 _ _)) e4⟩
    · cases q2
      obtain ⟨b, vs, rfl, h1, h2⟩ := hx.toTup
      refine .inr ⟨b, vs, rfl, h1, fun z => ?_, fun _ q hq => kq _ _ _ _ _ _ (.tup stA I3 hq (cut_reps h2 _ _)) e4⟩
      have hc : cutV vs lo' hi' = vs := by
        unfold cutV
        rw [z.1, z.2]
        simp
      have := cut_reps h2 lo' hi'
      rw [hc] at this
      exact kq _ _ _ _ _ _ (.data stA I3 (.tup h1 this)) e4
    · cases q2
  · cases e3
theorem snd_rev {a : E} {x : Expr} {k0 : Nat} {p1 p2 p3 p : Pos} (A : Snd X T a x) : Snd X T (.rev a) (.Subscript x (.Slice none none (some (.UnaryOp .USub (.Constant (.int 1) k0 p1) p2)) p3) p) := by
  obtain ⟨ta, pa, fa⟩ := A
  refine ⟨_, pe_revA pa, fun g env S σ H k r Q I e kq => ?_⟩
  rw [ev_rev] at e
  refine fa _ _ _ _ _ _ _ _ I e fun v ra g1 env1 S1 H1 A1 e1 => ?_
  split at e1
  · rename_i xs q1
    obtain ⟨b, vs, rfl, h1, h2⟩ := (look_prep A1.ok A1.rv q1).toLst
    exact ⟨b, vs, rfl, .inl ⟨SqL.of h1, fun q hq => kq _ _ _ _ _ _ (.lst A1.one A1.ok hq h2.reverse) e1⟩⟩
  · rename_i xs q1
    obtain ⟨b, vs, rfl, h1, h2⟩ := (look_prep A1.ok A1.rv q1).toTup
    exact ⟨b, vs, rfl, .inr ⟨h1, fun q hq => kq _ _ _ _ _ _ (.tup A1.one A1.ok hq h2.reverse) e1⟩⟩
  · cases e1

/-! ### calls -/
theorem call_after {K : PySem.W.Frag} {g g2 : Gh} {env : Env} {S1 S2 : Sta} {σ : L2.St} {H H2 : Hp} {v : V} {rv : RV} (I : IOk K g env S1 σ H) (st : Step g (fun _ => False) H g2 (NewA v rv) H2) (G : GhOk K g2 S2 H2) (R : RVO K g2 H2 v rv) :
    After K g env σ H v rv g2 env S2 H2 where
  st := ((st.frame (OwnA env σ)).widen (P := OwnA env σ) fun a z => by
    rcases z with z | z
    · exact z.elim
    · exact z).shrink fun a z => z.symm
  ok := I.step st G
  rv := by
    cases rv with
    | val d => exact R
    | new ds =>
      obtain ⟨a, xs, e, h1, h2, h3, h4⟩ := R
      refine ⟨a, xs, e, h1, h2, fun z => ?_, h3, h4⟩
      rcases st.nO a ⟨⟨ds, rfl⟩, e⟩ with q | q
      · exact q
      · exact I.notO q z
    | bor i => exact False.elim R
  nw := fun a z => by
    rcases st.nO a z with q | q
    · exact q.elim
    · exact q
theorem snd_call {f : Nat} {es : Es} {x : Str} {y : Expr} {l : List Expr} {px p : Pos} (C : CtxOk X M T sc top L) (h1 : M.T[f]? = some x) (h2 : glC sc x = true) (h3 : chkEs M sc es (y :: l) = true) (A : SndA X T es (y :: l)) :
    Snd X T (.call f es) (.Call (.Name x px) (y :: l) [] p) := by
  obtain ⟨ta, pa, fa⟩ := A
  obtain ⟨hg, hn⟩ := C.gl h2
  rw [C.hT, List.getElem?_map] at h1
  cases hφ : T[f]? with
  | none => rw [hφ] at h1; cases h1
  | some xφ =>
    obtain ⟨x', φ⟩ := xφ
    rw [hφ] at h1
    cases h1
    cases es with
    | nil => cases h3
    | cons e0 es0 =>
      have h3 : (chkE M sc e0 y && chkEs M sc es0 l) = true := h3
      rw [Bool.and_eq_true] at h3
      obtain ⟨⟨fa', fd, ps, k, hm, hk, hb, hl, F, ar⟩ | ⟨hm, hφ'⟩⟩ := C.fns f x' φ hφ
      rotate_left
      · subst hφ'
        refine ⟨_, pe_callBfun cr_gcd hg hm pa (nm_dbg hn) (starEach_of h3.1 l X.env) (stars_of h3.2), fun g env S σ H k r Q I e kq => ?_⟩
        rw [ev_call] at e
        refine fa _ _ _ _ _ _ _ _ I e fun vs ds g1 env1 S1 H1 st I1 R e1 => ?_
        rw [tget_eq, hφ] at e1
        have e1 : (match gcdFn ds S1 with
          | some (rv, S') => k rv env1 S'
          | none => none) = some r := e1
        split at e1
        · rename_i rv S' q
          unfold gcdFn at q
          split at q
          · rename_i a b
            cases q
            have hv : vs = [.int a, .int b] := by
              cases R with
              | cons h1 R1 =>
                cases R1 with
                | cons h2 R2 =>
                  cases R2
                  cases h1
                  cases h2
                  rfl
            exact ⟨a, b, hv, kq _ _ _ _ _ _ (.data st I1 (.int _)) e1⟩
          · cases q
        · cases e1
      refine ⟨_, pe_callG (E := fun _ _ _ => False) F C.gd (C.room.mono hl) hb hg hm hk pa (nm_dbg hn) (starEach_of h3.1 l X.env) (stars_of h3.2), fun g env S σ H k r Q I e kq => ?_⟩
      rw [ev_call] at e
      refine fa _ _ _ _ _ _ _ _ I e fun vs ds g1 env1 S1 H1 st I1 R e1 => ?_
      rw [tget_eq, hφ] at e1
      have e1 : (match φ ds S1 with
        | some (rv, S') => k rv env1 S'
        | none => none) = some r := e1
      split at e1
      · rename_i rv S' q
        have hlen : vs.length = ps.length := R.length.trans (ar _ _ _ q)
        exact ⟨hlen, g1, ds, S1, (rv, S'), R, I1.gh, q, fun v g2 H2 st2 G2 rv2 => kq _ _ _ _ _ _ (.then st (call_after I1 st2 G2 rv2)) e1⟩
      · cases e1

mutual
theorem plain_noDict : ∀ d : PyData, d.plain = true → d.hasDict = false
  | .none, _ => rfl
  | .bool _, _ => rfl
  | .int _, _ => rfl
  | .str _, _ => rfl
  | .list xs, h => by
    simp only [PyData.plain] at h
    simp only [PyData.hasDict]
    exact plain_noDicts xs h
  | .tuple xs, h => by
    simp only [PyData.plain] at h
    simp only [PyData.hasDict]
    exact plain_noDicts xs h
  | .dict _, h => by simp [PyData.plain] at h
theorem plain_noDicts : ∀ ds : List PyData, PyData.plainAll ds = true → PyData.hasDictAll ds = false
  | [], _ => rfl
  | x :: r, h => by
    simp only [PyData.plainAll, Bool.and_eq_true] at h
    simp only [PyData.hasDictAll, plain_noDict x h.1, plain_noDicts r h.2]
    rfl
end
def bi1V (K : PySem.W.Frag) : Bi → List V → Hp → VK → Prop
  | .abs => fun xs H Q => ∃ i, xs = [.int i] ∧ Q (.int (if i < 0 then -i else i)) H
  | .int => fun xs H Q => (∃ i, xs = [.int i] ∧ Q (.int i) H) ∨ ∃ k, xs = [.bl k] ∧ Q (.int (if k then 1 else 0)) H
  | .bool => fun xs H Q => (∃ i, xs = [.int i] ∧ Q (.bl (i != 0)) H) ∨ ∃ k, xs = [.bl k] ∧ Q (.bl k) H
  | .len => fun xs H Q => ∃ p ys, xs = [.ref p] ∧ (SqL K H p ys ∨ SqT K H p ys) ∧ Q (.int ys.length) H
  | .sum => rSum K
  | .tuple => fun xs H Q => ∃ p ys, xs = [.ref p] ∧ ((SqL K H p ys ∧ ∀ l, H l = none → Q (.ref l) (upd H l (.tup ys))) ∨ (SqT K H p ys ∧ Q (.ref p) H))
  | .repr => fun xs H Q => ∃ (x : V) (d : PyData), xs = [x] ∧ Dp K H x d ∧ d.plain = true ∧ d.depth ≤ 60 ∧ d.showable = true ∧ d.hasDict = false ∧ d.shown.length ≤ sizeLine ∧ Q (.str d.shown) H
  | .all => rAll K
  | .any => rAny K
  | .list => fun xs H Q => ∃ p ys, xs = [.ref p] ∧ (SqL K H p ys ∨ SqT K H p ys) ∧ ∀ l, H l = none → Q (.ref l) (upd H l (.lst ys))
  | .sorted => rSorted K
  | .isInt => fun _ _ _ => False
  | .isBool => fun _ _ _ => False
  | .isTup => fun _ _ _ => False
  | .flatL _ => fun _ _ _ => False
  | .flatT _ => fun _ _ _ => False
def bi2V : Bj → List V → Hp → VK → Prop
  | .max2 => fun xs H Q => ∃ i j, xs = [.int i, .int j] ∧ Q (.int (if j > i then j else i)) H
  | .min2 => fun xs H Q => ∃ i j, xs = [.int i, .int j] ∧ Q (.int (if j < i then j else i)) H
theorem bi1_pe {b : Bi} {x : Str} {e : Expr} {t : TA} {p pos : Pos} (gd : X.A.guards = some []) (hu : X.A.units + 70 < cLine) (hc : X.calm = true) (h1 : b.one = true) (hx : x = b.name) (hg : Gl X x) (hm : X.mg x = none) (ha : PA X [e] t) (hn : x ≠ "__name__") (hdb : (x == ("__debug__" : Str)) = false)
    (he : starEach [e] X.env = [(false, eval e X.env)]) : PE X (.Call (.Name x p) [e] [] pos) (tCB (bi1V X.K b) t) := by
  subst hx
  cases b
  case sorted => exact pe_callB cr_sorted hg hm (by decide +kernel) ha hn hdb he rfl
  case isInt => cases h1
  case isBool => cases h1
  case isTup => cases h1
  case flatL fl => cases h1
  case flatT fl => cases h1
  case abs => exact pe_callB call_abs hg hm (by decide +kernel) ha hn hdb he rfl
  case int => exact pe_callTy call_int1 hg hm (by decide +kernel) ha hn hdb he rfl
  case len => exact pe_callB call_len_seq hg hm (by decide +kernel) ha hn hdb he rfl
  case sum => exact pe_callB (cr_sum hc) hg hm (by decide +kernel) ha hn hdb he rfl
  case tuple => exact pe_callTy call_tuple_of hg hm (by decide +kernel) ha hn hdb he rfl
  case list => exact pe_callTy call_list_of hg hm (by decide +kernel) ha hn hdb he rfl
  case repr => exact pe_callB (cr_repr gd hu) hg hm (by decide +kernel) ha hn hdb he rfl
  case all => exact pe_callB (cr_all hc) hg hm (by decide +kernel) ha hn hdb he rfl
  case any => exact pe_callB (cr_any hc) hg hm (by decide +kernel) ha hn hdb he rfl
  case bool => exact pe_callTy call_bool1 hg hm (by decide +kernel) ha hn hdb he rfl
theorem sum_eq : ∀ ns : List Int, ns.sum = sumI ns
  | [] => rfl
  | i :: r => by rw [List.sum_cons, sum_eq r, sumI]
theorem prs_of {K : PySem.W.Frag} {g : Gh} {H : Hp} : ∀ {vs : List V} {ds : List D} {ps : List (Int × Int)}, Reps K g H vs ds → prsOf ds = some ps → Prs K H vs ps
  | _, _, _, .nil, e => by
    simp [prsOf] at e; subst e; exact .nil
  | _, _, ps, .cons (ds := r) h hr, e => by
    unfold prsOf at e
    split at e
    · rename_i z; cases z
    · rename_i a b r' z
      cases z
      rw [Option.map_eq_some_iff] at e
      obtain ⟨qs, e1, rfl⟩ := e
      cases h with
      | tup h1 h2 =>
        cases h2 with
        | cons i1 t =>
          cases t with
          | cons i2 n =>
            cases n
            cases i1
            cases i2
            exact .cons ⟨_, rfl, h1⟩ (prs_of hr e1)
    · cases e
theorem prs_reps {K : PySem.W.Frag} {g : Gh} {H : Hp} : ∀ {vs : List V} {ps : List (Int × Int)}, Prs K H vs ps → Reps K g H vs (ps.map prD)
  | _, _, .nil => .nil
  | _, _, .cons h r => by
    obtain ⟨t, rfl, q⟩ := h
    exact .cons (.tup q (.cons (.int _) (.cons (.int _) .nil))) (prs_reps r)
theorem sorted_snd {K : PySem.W.Frag} {g : Gh} {H : Hp} {a : Addr} {vs : List V} {ds ys : List D} {Q : VK} (h : SqL K H a vs) (R : Reps K g H vs ds) (e : sortD ds = some ys) (q : ∀ l ws, H l = none → Reps K g H ws ys → Q (.ref l) (upd H l (.lst ws))) : rSorted K [.ref a] H Q := by
  unfold sortD at e
  split at e
  · rename_i ns z
    cases e
    have := R.ints z
    subst this
    refine .inl ⟨a, ns, rfl, h, fun ns' p hp hs hn => ?_⟩
    have := uniqI _ _ hs (isort_srt ns) (hp.trans (isort_perm ns).symm)
    subst this
    exact q p _ hn (Reps.ofInts _)
  · split at e
    · rename_i ps z
      cases e
      exact .inr ⟨a, vs, ps, rfl, h, prs_of R z, fun ws p hw hn => q p ws hn (prs_reps hw)⟩
    · cases e
theorem bi1_snd {K : PySem.W.Frag} {b : Bi} {x : D} {vx : V} {rv : RV} {g g1 : Gh} {env env1 : Env} {S1 : Sta} {σ : L2.St} {H H1 : Hp} {Q : VK}
    (st : Step g (OwnA env σ) H g1 (OwnA env1 σ) H1) (I : IOk K g1 env1 S1 σ H1) (h1 : b.one = true) (hx : PRep K g1 H1 vx x) (e : bi1 S1 b x = some rv) (kq : ∀ v H', After K g env σ H v rv g1 env1 S1 H' → Q v H') :
    bi1V K b [vx] H1 Q := by
  unfold bi1 at e
  split at e
  · cases e
    exact ⟨_, by rw [hx.toInt], kq _ _ (.data st I (.int _))⟩
  · cases e
    exact .inl ⟨_, by rw [hx.toInt], kq _ _ (.data st I (.int _))⟩
  · cases e
    exact .inr ⟨_, by rw [hx.toBl], kq _ _ (.data st I (.int _))⟩
  · cases e
    exact .inl ⟨_, by rw [hx.toInt], kq _ _ (.data st I (.bl _))⟩
  · cases e
    exact .inr ⟨_, by rw [hx.toBl], kq _ _ (.data st I (.bl _))⟩
  · cases e
    obtain ⟨a, vs, rfl, h1, h2⟩ := hx.toLst
    exact ⟨a, vs, rfl, .inl (SqL.of h1), kq _ _ (.data st I (by rw [h2.length]; exact .int _))⟩
  · cases e
    obtain ⟨a, vs, rfl, h1, h2⟩ := hx.toTup
    exact ⟨a, vs, rfl, .inr h1, kq _ _ (.data st I (by rw [h2.length]; exact .int _))⟩
  · split at e
    · rename_i s hs
      cases e
      obtain ⟨a, c, rfl, h1⟩ := hx.toCells
      obtain ⟨a', c', h2, _, _, h3⟩ := I.gh.so s hs
      rw [h1] at h2; cases h2
      exact ⟨c, _, rfl, .inl (SqL.of h3), kq _ _ (.data st I (by rw [List.length_map]; exact .int _))⟩
    · cases e
  · split at e
    · rename_i ns q
      cases e
      obtain ⟨a, vs, rfl, h1, h2⟩ := hx.toLst
      have := h2.ints q
      subst this
      exact ⟨a, ns, rfl, SqL.of h1, kq _ _ (.data st I (by rw [sum_eq]; exact .int _))⟩
    · cases e
  · cases e
    obtain ⟨a, vs, rfl, h1, h2⟩ := hx.toLst
    exact ⟨a, vs, rfl, .inl ⟨SqL.of h1, fun l hl => kq _ _ (.tup st I hl h2)⟩⟩
  · cases e
    obtain ⟨a, vs, rfl, h1, h2⟩ := hx.toTup
    exact ⟨a, vs, rfl, .inr ⟨h1, kq _ _ (.data st I (.tup h1 h2))⟩⟩
  · cases e
    obtain ⟨a, vs, rfl, h1, h2⟩ := hx.toLst
    exact ⟨a, vs, rfl, .inl (SqL.of h1), fun l hl => kq _ _ (.lst st I hl h2)⟩
  · cases e
    obtain ⟨a, vs, rfl, h1, h2⟩ := hx.toTup
    exact ⟨a, vs, rfl, .inr h1, fun l hl => kq _ _ (.lst st I hl h2)⟩
  · split at e
    · rename_i bs q
      cases e
      obtain ⟨a, vs, rfl, h1, h2⟩ := hx.toLst
      have := h2.bools q
      subst this
      exact ⟨a, bs, rfl, SqL.of h1, kq _ _ (.data st I (.bl _))⟩
    · cases e
  · split at e
    · rename_i bs q
      cases e
      obtain ⟨a, vs, rfl, h1, h2⟩ := hx.toLst
      have := h2.bools q
      subst this
      exact ⟨a, bs, rfl, SqL.of h1, kq _ _ (.data st I (.bl _))⟩
    · cases e
  · split at e
    · rename_i q
      cases e
      rw [reprOk_eq] at q
      simp only [Bool.and_eq_true] at q
      obtain ⟨q1, q2', q4'⟩ := q
      obtain ⟨q2, q3⟩ := rok_py x q2'
      have q4 := Nat.le_of_ble_eq_true q4'
      rw [blk_py x q2'] at q4
      obtain ⟨p1, p2⟩ := fit_plain 60 x q1
      have q5 : x.py.shown.length ≤ sizeLine := by
        have := PyData.shown_le_bulk 1921 (by decide) x.py q3
        rw [sizeLine_eq]
        omega
      refine ⟨vx, x.py, rfl, hx.dp q1, p1, p2, q2, plain_noDict _ p1, q5, kq _ _ (.data st I .rep)⟩
    · cases e
  · split at e
    · rename_i ys q
      cases e
      obtain ⟨a, vs, rfl, h2, h3⟩ := hx.toLst
      exact sorted_snd (SqL.of h2) h3 q fun l ws hl hw => kq _ _ (.lst st I hl hw)
    · cases e
  · cases h1
  · cases h1
  · cases h1
  · cases h1
  · cases h1
  · cases h1
  · cases h1
  · cases h1
  · cases h1
  · cases h1
  · cases h1
  · cases h1
  · cases h1
  · cases h1
  · cases e

theorem bi2_pe {b : Bj} {x : Str} {e e2 : Expr} {t : TA} {p pos : Pos} (hc : X.calm = true) (hx : x = b.name) (hg : Gl X x) (hm : X.mg x = none) (ha : PA X [e, e2] t) (hn : x ≠ "__name__") (hdb : (x == ("__debug__" : Str)) = false)
    (he : starEach [e, e2] X.env = (false, eval e X.env) :: starEach [e2] X.env) (hp : (backTo pos (starEach [e2] X.env)).any (·.1) = false) : PE X (.Call (.Name x p) [e, e2] [] pos) (tCB (bi2V b) t) := by
  subst hx
  cases b
  case max2 => exact pe_callB (call_max2 hc) hg hm (by decide +kernel) ha hn hdb he hp
  case min2 => exact pe_callB (call_min2 hc) hg hm (by decide +kernel) ha hn hdb he hp
theorem bi2_snd {K : PySem.W.Frag} {b : Bj} {x y : D} {vx vy : V} {rv : RV} {g g1 : Gh} {env env1 : Env} {S1 : Sta} {σ : L2.St} {H H1 : Hp} {Q : VK}
    (st : Step g (OwnA env σ) H g1 (OwnA env1 σ) H1) (I : IOk K g1 env1 S1 σ H1) (hx : PRep K g1 H1 vx x) (hy : PRep K g1 H1 vy y) (e : bi2 b x y = some rv) (kq : ∀ v H', After K g env σ H v rv g1 env1 S1 H' → Q v H') :
    bi2V b [vx, vy] H1 Q := by
  unfold bi2 at e
  split at e
  · cases e
    exact ⟨_, _, by rw [hx.toInt, hy.toInt], kq _ _ (.data st I (.int _))⟩
  · cases e
    exact ⟨_, _, by rw [hx.toInt, hy.toInt], kq _ _ (.data st I (.int _))⟩
  · cases e
theorem blt_mem (b : Bi) : b.name ∈ Blts := by cases b <;> first | decide +kernel | exact (by decide +kernel : ("list" : Str) ∈ Blts)
theorem blt_mem2 (b : Bj) : b.name ∈ Blts := by cases b <;> decide +kernel
theorem snd_bi1 {b : Bi} {a : E} {x : Str} {y : Expr} {px p : Pos} (C : CtxOk X M T sc top L) (h1 : x = b.name) (h2 : glC sc x = true) (h3 : chkE M sc a y = true) (ho : b.one = true) (A : Snd X T a y) : Snd X T (.bi1 b a) (.Call (.Name x px) [y] [] p) := by
  obtain ⟨ta, pa, fa⟩ := A
  obtain ⟨hg, hn⟩ := C.gl h2
  refine ⟨_, bi1_pe C.gd C.units C.calm ho h1 hg (by rw [h1]; exact C.blt _ (blt_mem b)) (pa_cons pa pa_nil (starEach_of h3 [] X.env)) (nm_nm hn) (nm_dbg hn) (starEach_of h3 [] X.env), fun g env S σ H k r Q I e kq => ?_⟩
  rw [ev_bi1] at e
  refine fa _ _ _ _ _ _ _ _ I e fun v ra g1 env1 S1 H1 A1 e1 => ?_
  split at e1
  · rename_i dx q1
    obtain ⟨rv, q2, e2⟩ := giveRV_inv e1
    exact bi1_snd A1.one A1.ok ho (look_prep A1.ok A1.rv q1) q2 fun v H' A3 => kq _ _ _ _ _ _ A3 e2
  · cases e1
theorem blt_isi (b : Bi) (h : isiC b = true) : b.cls ∈ Blts := by cases b <;> first | exact absurd h Bool.false_ne_true | decide +kernel
theorem snd_isi {b : Bi} {a : E} {x z : Str} {y : Expr} {px pz p : Pos} (C : CtxOk X M T sc top L) (h1 : x = b.name) (h2 : glC sc x = true) (h3 : chkE M sc a y = true) (h4 : z = b.cls) (h5 : glC sc z = true) (hi : isiC b = true) (A : Snd X T a y) : Snd X T (.bi1 b a) (.Call (.Name x px) [y, .Name z pz] [] p) := by
  obtain ⟨ta, pa, fa⟩ := A
  obtain ⟨hg, hn⟩ := C.gl h2
  obtain ⟨hg2, hn2⟩ := C.gl h5
  subst h4
  have hm : X.mg b.cls = none := C.blt _ (blt_isi b hi)
  have hx : x = "isinstance" := by
    subst h1
    cases b <;> first | exact absurd hi Bool.false_ne_true | rfl
  subst hx
  have hm1 : X.mg ("isinstance" : Str) = none := C.blt _ (by decide +kernel)
  have main : ∀ n : String, PySem.bootBuiltins b.cls = some (.type n) → (∀ (g : Gh) (H : Hp) (v : V) (d : D) (S : Sta) (rv : RV), PRep X.K g H v d → bi1 S b d = some rv → ∃ (t : Value) (c : Bool), rv = .val (.bl c) ∧ TyX X.K H v t ∧ PySem.W.kitOne X.K t (.type n) = some c) → Snd X T (.bi1 b a) (.Call (.Name "isinstance" px) [y, .Name b.cls pz] [] p) := by
    intro n hb hk
    have pc : PE X (.Name b.cls pz) (tC (.ty n)) := pe_bltn hg2 hm hb rfl (nm_nm hn2) (nm_dbg hn2)
    refine ⟨_, pe_callB call_isi hg hm1 (by decide +kernel) (pa_cons pa (pa_cons pc pa_nil rfl) (starEach_of h3 _ X.env)) (nm_nm hn) (nm_dbg hn) (starEach_of h3 _ X.env) rfl, fun g env S σ H k r Q I e kq => ?_⟩
    rw [ev_bi1] at e
    refine fa _ _ _ _ _ _ _ _ I e fun v ra g1 env1 S1 H1 A1 e1 => ?_
    split at e1
    · rename_i dx q1
      obtain ⟨rv, q2, e2⟩ := giveRV_inv e1
      obtain ⟨t, c, rfl, ty, kt⟩ := hk g1 H1 v dx S1 rv (look_prep A1.ok A1.rv q1) q2
      exact ⟨v, .ty n, t, .type n, c, rfl, .ty n, ty, kt, kq _ _ _ _ _ _ (.data A1.one A1.ok (.bl c)) e2⟩
    · cases e1
  cases b <;> try exact absurd hi Bool.false_ne_true
  · refine main "int" (by decide +kernel) fun g H v d S rv P q => ?_
    cases d with
    | int i => cases q; rw [P.toInt]; exact ⟨_, _, rfl, .base (.int i), kit_ty (by decide +kernel)⟩
    | bl c => cases q; rw [P.toBl]; exact ⟨_, _, rfl, .base (.bl c), kit_ty (by decide +kernel)⟩
    | non => cases q; rw [P.toNon]; exact ⟨_, _, rfl, .base .non, kit_ty (by decide +kernel)⟩
    | tup xs => cases q; obtain ⟨a, vs, rfl, h1, h2⟩ := P.toTup; exact ⟨_, _, rfl, ty_tup h1, kit_ty (by decide +kernel)⟩
    | _ => cases q
  · refine main "bool" (by decide +kernel) fun g H v d S rv P q => ?_
    cases d with
    | int i => cases q; rw [P.toInt]; exact ⟨_, _, rfl, .base (.int i), kit_ty (by decide +kernel)⟩
    | bl c => cases q; rw [P.toBl]; exact ⟨_, _, rfl, .base (.bl c), kit_ty (by decide +kernel)⟩
    | non => cases q; rw [P.toNon]; exact ⟨_, _, rfl, .base .non, kit_ty (by decide +kernel)⟩
    | tup xs => cases q; obtain ⟨a, vs, rfl, h1, h2⟩ := P.toTup; exact ⟨_, _, rfl, ty_tup h1, kit_ty (by decide +kernel)⟩
    | _ => cases q
  · refine main "tuple" (by decide +kernel) fun g H v d S rv P q => ?_
    cases d with
    | int i => cases q; rw [P.toInt]; exact ⟨_, _, rfl, .base (.int i), kit_ty (by decide +kernel)⟩
    | bl c => cases q; rw [P.toBl]; exact ⟨_, _, rfl, .base (.bl c), kit_ty (by decide +kernel)⟩
    | non => cases q; rw [P.toNon]; exact ⟨_, _, rfl, .base .non, kit_ty (by decide +kernel)⟩
    | tup xs => cases q; obtain ⟨a, vs, rfl, h1, h2⟩ := P.toTup; exact ⟨_, _, rfl, ty_tup h1, kit_ty (by decide +kernel)⟩
    | _ => cases q
/-! ### displays with stars -/
def SndD (X : Cx) (T : Tab) (es : Es) (fl : List Bool) (pes : List Expr) : Prop := ∃ t : TA, PA X pes t ∧ ∀ (g : Gh) (env : Env) (S : Sta) (σ : L2.St) (H : Hp) (k : KDs) (r : RV × Sta) (Q : List V → Hp → Prop), IOk X.K g env S σ H → evs T es env S k = some r →
  (∀ vs ds g' env' S' H', Step g (OwnA env σ) H g' (OwnA env' σ) H' → IOk X.K g' env' S' σ H' → (∀ xs, flat fl ds = some xs → Reps X.K g' H' vs xs) → k ds env' S' = some r → Q vs H') → t σ H Q
theorem sndD_nil : SndD X T .nil [] [] := ⟨_, pa_nil, fun g env S σ H k r Q I e kq => kq [] [] g env S H .refl I (fun xs q => by cases q; exact .nil) e⟩
theorem sndD_one {e : E} {pe : Expr} {es : Es} {fl : List Bool} {pes : List Expr} (h : chkE M sc e pe = true) (A : Snd X T e pe) (B : SndD X T es fl pes) : SndD X T (.cons e es) (false :: fl) (pe :: pes) := by
  obtain ⟨ta, pa, fa⟩ := A
  obtain ⟨tb, pb, fb⟩ := B
  refine ⟨_, pa_cons pa pb (starEach_of h pes X.env), fun g env S σ H k r Q I e kq => ?_⟩
  have e : (ev T _ env S fun rv env S => toD rv env S fun d env S => evs T es env S fun ds env S => k (d :: ds) env S) = some r := e
  refine fa _ _ _ _ _ _ _ _ I e fun v rv g1 env1 S1 H1 A1 e1 => ?_
  obtain ⟨d, g2, env2, A2, e2⟩ := A1.toD e1
  refine fb _ _ _ _ _ _ _ _ A2.ok e2 fun vs ds g3 env3 S3 H3 st I3 R3 e3 => ?_
  refine kq (v :: vs) (d :: ds) _ _ _ _ (A2.st.trans st) I3 (fun xs q => ?_) e3
  have q : (flat fl ds).map (d :: ·) = some xs := q
  rw [Option.map_eq_some_iff] at q
  obtain ⟨ys, q1, rfl⟩ := q
  exact .cons (A2.rep.step st A2.ok.FO) (R3 ys q1)
theorem sndD_star {e : E} {pe : Expr} {p : Pos} {es : Es} {fl : List Bool} {pes : List Expr} (A : Snd X T e pe) (B : SndD X T es fl pes) : SndD X T (.cons (.bi1 .list e) es) (true :: fl) (.Starred pe p :: pes) := by
  obtain ⟨ta, pa, fa⟩ := A
  obtain ⟨tb, pb, fb⟩ := B
  refine ⟨_, StX.pa_star pa pb, fun g env S σ H k r Q I e kq => ?_⟩
  have e : (ev T (.bi1 .list _) env S fun rv env S => toD rv env S fun d env S => evs T es env S fun ds env S => k (d :: ds) env S) = some r := e
  rw [ev_bi1] at e
  refine fa _ _ _ _ _ _ _ _ I e fun v ra g1 env1 S1 H1 A1 e1 => ?_
  split at e1
  · rename_i dx q1
    obtain ⟨rv, q2, e2⟩ := giveRV_inv e1
    have P := look_prep A1.ok A1.rv q1
    have key : ∃ a ys xs, v = .ref a ∧ (SqT X.K H1 a ys ∨ SqL X.K H1 a ys) ∧ Reps X.K g1 H1 ys xs ∧ rv = .new xs := by
      cases dx with
      | lst xs =>
        cases q2
        obtain ⟨a, ys, rfl, h1, h2⟩ := P.toLst
        exact ⟨a, ys, xs, rfl, .inr (SqL.of h1), h2, rfl⟩
      | tup xs =>
        cases q2
        obtain ⟨a, ys, rfl, h1, h2⟩ := P.toTup
        exact ⟨a, ys, xs, rfl, .inl h1, h2, rfl⟩
      | _ => cases q2
    obtain ⟨a, ys, xs, rfl, h1, h2, rfl⟩ := key
    refine ⟨a, ys, rfl, h1, ?_⟩
    have e3 : (evs T es env1 S1 fun ds env S => k (.lst xs :: ds) env S) = some r := e2
    refine fb _ _ _ _ _ _ _ _ A1.ok e3 fun vs ds g3 env3 S3 H3 st I3 R3 e4 => ?_
    refine kq (ys ++ vs) (.lst xs :: ds) _ _ _ _ (A1.one.trans st) I3 (fun zs q => ?_) e4
    have q : (flat fl ds).map (xs ++ ·) = some zs := q
    rw [Option.map_eq_some_iff] at q
    obtain ⟨ws, q3, rfl⟩ := q
    exact (h2.step st A1.ok.FO).append (R3 ws q3)
  · cases e1
theorem snd_flatT {es : Es} {fl : List Bool} {pes : List Expr} {k0 : Nat} {p : Pos} (A : SndD X T es fl pes) : Snd X T (.bi1 (.flatT fl) (.lst es)) (.Tuple pes k0 p) := by
  obtain ⟨ta, pa, fa⟩ := A
  refine ⟨_, pe_tup pa, fun g env S σ H k r Q I e kq => ?_⟩
  rw [ev_bi1, ev_lst] at e
  refine fa _ _ _ _ _ _ _ _ I e fun vs ds g1 env1 S1 H1 st I1 R e1 => ?_
  split at e1
  · obtain ⟨rv, q2, e2⟩ := giveRV_inv e1
    have q2 : (match flat fl ds with
      | some xs => if xs.length ≤ LINE then some (RV.val (.tup xs)) else none
      | none => none) = some rv := q2
    split at q2
    · rename_i xs q
      split at q2
      · rename_i hl
        cases q2
        have R := R xs q
        refine ⟨?_, fun q hq => kq _ _ _ _ _ _ (.tup st I1 hq R) e2⟩
        rw [R.length, sizeLine_eq]; exact hl
      · cases q2
    · cases q2
  · cases e1
theorem snd_flatL {es : Es} {fl : List Bool} {pes : List Expr} {p : Pos} (A : SndD X T es fl pes) : Snd X T (.bi1 (.flatL fl) (.lst es)) (.List pes p) := by
  obtain ⟨ta, pa, fa⟩ := A
  refine ⟨_, pe_lst pa, fun g env S σ H k r Q I e kq => ?_⟩
  rw [ev_bi1, ev_lst] at e
  refine fa _ _ _ _ _ _ _ _ I e fun vs ds g1 env1 S1 H1 st I1 R e1 => ?_
  split at e1
  · obtain ⟨rv, q2, e2⟩ := giveRV_inv e1
    have q2 : (match flat fl ds with
      | some xs => if xs.length ≤ LINE then some (RV.new xs) else none
      | none => none) = some rv := q2
    split at q2
    · rename_i xs q
      split at q2
      · rename_i hl
        cases q2
        have R := R xs q
        refine ⟨?_, fun q hq => kq _ _ _ _ _ _ (.lst st I1 hq R) e2⟩
        rw [R.length, sizeLine_eq]; exact hl
      · cases q2
    · cases q2
  · cases e1
theorem snd_bi2 {b : Bj} {a c : E} {x : Str} {y z : Expr} {px p : Pos} (C : CtxOk X M T sc top L) (h1 : x = b.name) (h2 : glC sc x = true) (h3 : chkE M sc a y = true) (h4 : chkE M sc c z = true) (A : Snd X T a y) (B : Snd X T c z) :
    Snd X T (.bi2 b a c) (.Call (.Name x px) [y, z] [] p) := by
  obtain ⟨ta, pa, fa⟩ := A
  obtain ⟨tb, pb, fb⟩ := B
  obtain ⟨hg, hn⟩ := C.gl h2
  refine ⟨_, bi2_pe C.calm h1 hg (by rw [h1]; exact C.blt _ (blt_mem2 b)) (pa_cons pa (pa_cons pb pa_nil (starEach_of h4 [] X.env)) (starEach_of h3 [z] X.env)) (nm_nm hn) (nm_dbg hn) (starEach_of h3 [z] X.env) (by rw [starEach_of h4 [] X.env]; rfl), fun g env S σ H k r Q I e kq => ?_⟩
  rw [ev_bi2] at e
  refine fa _ _ _ _ _ _ _ _ I e fun v ra g1 env1 S1 H1 A1 e1 => ?_
  refine fb _ _ _ _ _ _ _ _ A1.ok e1 fun w rb g2 env2 S2 H2 A2 e2 => ?_
  obtain ⟨st, rv1⟩ := A1.two A2
  split at e2
  · rename_i dx q1
    split at e2
    · rename_i dy q2
      obtain ⟨rv, q3, e3⟩ := giveRV_inv e2
      exact bi2_snd st A2.ok (look_prep A2.ok rv1 q1) (look_prep A2.ok A2.rv q2) q3 fun v H' A3 => kq _ _ _ _ _ _ A3 e3
    · cases e2
  · cases e2

/-! ### the source -/
theorem fld_ne : ("cells" : Str) ≠ "left" ∧ ("cells" : Str) ≠ "mixed" ∧ ("cells" : Str) ≠ "turn" ∧ ("left" : Str) ≠ "mixed" ∧ ("left" : Str) ≠ "turn" ∧ ("mixed" : Str) ≠ "turn" := by decide +kernel
theorem inr_ne {x y : Str} (h : x ≠ y) : ¬ (Sum.inr x : Key) = Sum.inr y := fun e => h (Sum.inr.inj e)
def Src.valOf (c : Addr) (s : Src) : Fld → V
  | .cells => .ref c
  | .left => .int s.left
  | .mixed => .int s.mixed
  | .turn => .int s.turn
theorem src_val (c : Addr) (s : Src) (f : Fld) : valV (srcK c s) (.inr f.name) = some (s.valOf c f) := by
  obtain ⟨n1, n2, n3, n4, n5, n6⟩ := fld_ne
  unfold srcK
  cases f
  · exact valV_pos rfl
  · rw [show Fld.left.name = "left" from rfl, valV_neg (inr_ne n1), valV_pos rfl]; rfl
  · rw [show Fld.mixed.name = "mixed" from rfl, valV_neg (inr_ne n2), valV_neg (inr_ne n4), valV_pos rfl]; rfl
  · rw [show Fld.turn.name = "turn" from rfl, valV_neg (inr_ne n3), valV_neg (inr_ne n5), valV_neg (inr_ne n6), valV_pos rfl]; rfl
theorem src_put (c : Addr) (s s' : Src) (f : Fld) (d : D) (i : Int) (hd : d = .int i) (h : s.put f d = some s') : putK (srcK c s) (.inr f.name) (.int i) = srcK c s' := by
  obtain ⟨n1, n2, n3, n4, n5, n6⟩ := fld_ne
  subst hd
  cases f
  · cases h
  · cases h
    unfold putK srcK
    simp [Fld.name, n1, n1.symm, n2, n2.symm, n3, n3.symm, n4, n4.symm, n5, n5.symm, n6, n6.symm]
  · cases h
    unfold putK srcK
    simp [Fld.name, n1, n1.symm, n2, n2.symm, n3, n3.symm, n4, n4.symm, n5, n5.symm, n6, n6.symm]
  · cases h
    unfold putK srcK
    simp [Fld.name, n1, n1.symm, n2, n2.symm, n3, n3.symm, n4, n4.symm, n5, n5.symm, n6, n6.symm]
theorem src_gets {K : PySem.W.Frag} {g : Gh} {H : Hp} {a c : Addr} (s : Src) (h : g.sc = some (a, c)) : ∀ f : Fld, Rep K g H (s.valOf c f) (s.get f)
  | .cells => .cells h
  | .left => .int _
  | .mixed => .int _
  | .turn => .int _
theorem snd_sget {a : E} {f : Fld} {x : Expr} {k0 : Nat} {p1 p : Pos} (C : CtxOk X M T sc top L) (A : Snd X T a x) : Snd X T (.sget a f) (.Subscript x (.Constant (.str f.name) k0 p1) p) := by
  obtain ⟨ta, pa, fa⟩ := A
  have hu := C.units
  refine ⟨_, pe_dget (by omega) pa pe_str (fun _ _ => rfl), fun g env S σ H k r Q I e kq => ?_⟩
  rw [ev_sget] at e
  refine fa _ _ _ _ _ _ _ _ I e fun v ra g1 env1 S1 H1 A1 e1 => ?_
  split at e1
  · split at e1
    · rename_i s hs
      have h : Rep X.K g1 H1 v .src := A1.rv
      cases h with
      | src h =>
        obtain ⟨a', c', h2, _, h4, h5⟩ := A1.ok.gh.so s hs
        rw [h] at h2; cases h2
        refine ⟨_, _, rfl, ?_, kq _ _ _ _ _ _ (.data A1.one A1.ok (src_gets s h f)) e1⟩
        have := DGet.k (k := Sum.inr f.name) h4
        rw [src_val] at this
        exact this
    · cases e1
  · cases e1
end
end Iv
end

section
set_option Elab.async false
set_option linter.all false
set_option autoImplicit false
set_option maxRecDepth 100000
namespace Iv
open PySem PySem.Spec PyProof.Rows L2
section
variable {X : Cx} {M : Nm} {T : Tab} {sc : Scope} {top : Bool} {L : Nat}
section
variable {K : PySem.W.Frag} {g : Gh} {H : Hp} {O : Addr → Prop} {env : Env} {S S' : Sta} {σ : L2.St}
theorem step_write {a : Addr} {o o' : HO} (h : O a ∨ SrcA g a) (ho : H a = some o) (n1 : ∀ xs, o ≠ .tup xs) (n2 : ∀ ob u, o ≠ .frz ob u) : Step g O H g O (upd H a o') where
  F := fun _ h => h
  nF := fun _ h => .inl h
  sc := fun _ h => h
  nsc := fun _ h => .inl h
  sa := rfl
  keep := fun b u e m1 m2 => by
    rw [upd_ne]
    · exact e
    · rintro rfl
      rcases h with h | h
      · exact m1 h
      · exact m2 h
  tup := fun b xs e => by
    rw [upd_ne]
    · exact e
    · rintro rfl
      rw [ho] at e
      exact n1 xs (Option.some.inj e)
  frz := fun b ob u e => by
    rw [upd_ne]
    · exact e
    · rintro rfl
      rw [ho] at e
      exact n2 ob u (Option.some.inj e)
  there := fun b e => by
    by_cases z : b = a
    · subst z; rw [upd_same]; simp
    · rw [upd_ne z]; exact e
  nO := fun _ h => .inl h
/-- the source's dict or its list is written -/
theorem IOk.wsrc {a : Addr} {o o' : HO} (I : IOk K g env S σ H) (h : SrcA g a) (ho : H a = some o) (n1 : ∀ xs, o ≠ .tup xs) (n2 : ∀ ob u, o ≠ .frz ob u) (G : GhOk K g S' (upd H a o')) : IOk K g env S' σ (upd H a o') :=
  I.step (O1 := fun _ => False) (step_write (.inr h) ho n1 n2) G
theorem lastI_eq : ∀ {ns q : List Int} {i : Int}, lastI ns = some (i, q) → ns = q ++ [i]
  | [], _, _, h => by cases h
  | [j], q, i, h => by cases h; rfl
  | j :: l :: r, q, i, h => by
    have h : (match lastI (l :: r) with
      | some (j', q') => some (j', j :: q')
      | none => none) = some (i, q) := h
    cases e : lastI (l :: r) with
    | none => rw [e] at h; cases h
    | some p =>
      rw [e] at h
      cases h
      rw [lastI_eq (ns := l :: r) (q := p.2) (i := p.1) e]; rfl
end
theorem base_of {x : Expr} {m : Str} (h : plainE x = true) (env : PySem.Env) : attributeBase x m env (eval x env) = eval x env := by
  cases x
  case Call => cases h
  all_goals rfl
theorem snd_spop {a : E} {x : Expr} {ap cp : Pos} (h1 : plainE x = true) (h2 : (ap.endLine == cp.line) = true) (A : Snd X T a x) : Snd X T (.spop a) (.Call (.Attribute x "pop" ap) [] [] cp) := by
  obtain ⟨ta, pa, fa⟩ := A
  refine ⟨_, pe_bm0 PySem.F.plainAttrs_list PySem.F.slot_list_pop PySem.F.type_list_pop mt_pop pa (base_of h1 X.env) h2, fun g env S σ H k r Q I e kq => ?_⟩
  rw [ev_spop] at e
  refine fa _ _ _ _ _ _ _ _ I e fun v ra g1 env1 S1 H1 A1 e1 => ?_
  split at e1
  · split at e1
    · rename_i s hs
      split at e1
      · rename_i i q hl
        have h : Rep X.K g1 H1 v .cells := A1.rv
        cases h with
        | @cells a c h =>
          obtain ⟨a', c', h2, h3, h4, h5⟩ := A1.ok.gh.so s hs
          rw [h] at h2; cases h2
          have hn := lastI_eq hl
          have G : GhOk X.K g1 { S1 with src := some { s with cells := q } } (upd H1 c (.lst (q.map V.int))) := by
            refine ⟨fun b z => ?_, A1.ok.gh.fs, (fun z => by cases z), fun s' z => ?_, ?_⟩
            · by_cases e : b = c
              · subst e; rw [upd_same]; simp
              · rw [upd_ne e]; exact A1.ok.gh.fr b z
            · cases z
              exact ⟨a, c, h, h3, by rw [upd_ne h3]; exact h4, upd_same⟩
            · rcases A1.ok.gh.scr with ⟨o, z⟩ | z
              · refine .inl ⟨o, ?_⟩
                rw [upd_ne (ne_of z h5 (fun z => nomatch z))]
                exact z
              · exact .inr z
          have hs' : SrcA g1 c := ⟨_, h, .inr rfl⟩
          refine ⟨.inl ⟨rfl, _, SqL.of h5⟩, c, _, .int i, rfl, rfl, h5, ?_, ?_⟩
          · rw [hn]; simp
          · have e9 : (s.cells.map V.int).dropLast = q.map V.int := by rw [hn]; simp
            rw [e9]
            exact kq _ _ _ _ _ _ (.data (A1.one.trans (step_write (.inr hs') h5 (fun _ z => nomatch z) fun _ _ z => nomatch z)) (A1.ok.wsrc hs' h5 (fun _ z => nomatch z) (fun _ _ z => nomatch z) G) (.int i)) e1
      · cases e1
    · cases e1
  · cases e1
theorem isStr_eq {x : String} {e : Expr} (h : isStr x e = true) : ∃ k p, e = .Constant (.str (Str.ofString x)) k p := by
  unfold isStr at h
  split at h
  · exact ⟨_, _, by rw [of_decide_eq_true h]⟩
  · cases h
theorem snd_mks {a b c d : E} {v1 v2 v3 v4 : Expr} {k1 k2 k3 k4 : Nat} {p1 p2 p3 p4 p : Pos} (A : Snd X T a v1) (B : Snd X T b v2) (Cc : Snd X T c v3) (Dd : Snd X T d v4) :
    Snd X T (.mks a b c d) (.Dict [some (.Constant (.str (Str.ofString "cells")) k1 p1), some (.Constant (.str (Str.ofString "left")) k2 p2), some (.Constant (.str (Str.ofString "mixed")) k3 p3), some (.Constant (.str (Str.ofString "turn")) k4 p4)] [v1, v2, v3, v4] p) := by
  obtain ⟨ta, pa, fa⟩ := A
  obtain ⟨tb, pb, fb⟩ := B
  obtain ⟨tc, pc, fc⟩ := Cc
  obtain ⟨td, pd, fd⟩ := Dd
  refine ⟨_, pe_disp (pps_cons pe_str pa (pps_cons pe_str pb (pps_cons pe_str pc (pps_cons pe_str pd pps_nil)))) rfl rfl (fun z => nomatch z) (show 4 ≤ 15 by decide), fun g env S σ H k r Q I e kq => ?_⟩
  rw [ev_mks] at e
  intro p hp
  have I0 : IOk X.K g env S σ (upd H p (.dK [])) := I.alloc hp
  have s0 : Step g (OwnA env σ) H g (fun b => OwnA env σ b ∨ b = p) (upd H p (.dK [])) := step_alloc hp
  refine fa _ _ _ _ _ _ _ _ I0 e fun v ra g1 env1 S1 H1 A1 e1 => ?_
  refine fb _ _ _ _ _ _ _ _ A1.ok e1 fun w rb g2 env2 S2 H2 A2 e2' => ?_
  obtain ⟨x, rfl, e2⟩ := asInt_inv e2'
  refine fc _ _ _ _ _ _ _ _ A2.ok e2 fun w3 rc g3 env3 S3 H3 A3 e3' => ?_
  obtain ⟨y, rfl, e3⟩ := asInt_inv e3'
  refine fd _ _ _ _ _ _ _ _ A3.ok e3 fun w4 rd g4 env4 S4 H4 A4 e4' => ?_
  obtain ⟨z, rfl, e4⟩ := asInt_inv e4'
  split at e4
  · rename_i ds
    split at e4
    · rename_i ns hns
      split at e4
      · rename_i hsrc
        -- the cells' list waits
        have st14 : Step g1 (OwnA env1 σ) H1 g4 (OwnA env4 σ) H4 := (A2.one.trans A3.one).trans A4.one
        obtain ⟨cc, xs, rfl, n1, n2, n3, n4, n5⟩ := A1.rv.step st14 A1.ok.FO
        have hxs := n5.ints hns
        subst hxs
        have np0 : ¬ OwnA env σ p := I.notO hp
        have ns0 : ¬ SrcA g p := I.gh.notS hp
        have stA : Step g (OwnA env σ) (upd H p (.dK [])) g4 (OwnA env4 σ) H4 := A1.one.trans st14
        have hp4 : H4 p = some (.dK []) := stA.keep p _ upd_same np0 ns0
        have nop : ¬ OwnA env4 σ p := fun z => by
          rcases stA.nO p z with z | z
          · exact np0 z
          · rw [upd_same] at z; cases z
        have npc : p ≠ cc := ne_of hp4 n4 (fun z => nomatch z)
        have nF4 : ¬ g4.F p := fun z => by
          rcases stA.nF p z with z | z | z
          · exact I.notF hp z
          · rw [upd_same] at z; cases z
          · exact np0 z
        have hsc : g4.sc = none := A4.ok.gh.no hsrc
        refine ⟨hp4, [(.inr "cells", .ref cc), (.inr "left", .int x), (.inr "mixed", .int y), (.inr "turn", .int z)], ?_, (show 4 ≤ 15 by decide), ?_⟩
        · rw [A2.int, A3.int, A4.int]; rfl
        · have em : mergeK [] ([(.inr "cells", .ref cc), (.inr "left", .int x), (.inr "mixed", .int y), (.inr "turn", .int z)] : List (Key × V)) = srcK cc ⟨ns, x, y, z⟩ := by
            obtain ⟨m1, m2, m3, m4, m5, m6⟩ := fld_ne
            unfold mergeK putK srcK
            simp [m1, m1.symm, m2, m2.symm, m3, m3.symm, m4, m4.symm, m5, m5.symm, m6, m6.symm]
          rw [em]
          have hcH : H cc = none := by
            have q := A1.nw cc ⟨⟨ds, rfl⟩, rfl⟩
            rw [upd_ne npc.symm] at q
            exact q
          refine kq (.ref p) (.val .src) { g4 with sc := some (p, cc) } env4 { S4 with src := some ⟨ns, x, y, z⟩ } _ (.data ?_ ?_ (.src rfl)) e4
          · refine ⟨stA.F, fun b q => ?_, fun q hq => ?_, fun q hq => ?_, stA.sa, fun b o e m1 m2 => ?_, fun b xs e => ?_, fun b o u e => ?_, fun b e => ?_, fun b q => ?_⟩
            · rcases stA.nF b q with q | q | q
              · exact .inl q
              · refine .inr (.inl ?_)
                by_cases e : b = p
                · rw [e]; exact hp
                · rw [upd_ne e] at q; exact q
              · exact .inr (.inr q)
            · have := stA.sc q hq
              rw [hsc] at this; cases this
            · cases hq
              exact .inr ⟨hp, hcH⟩
            · have nb : b ≠ p := ne_of_none e hp
              rw [upd_ne nb]
              exact stA.keep b o (by rw [upd_ne nb]; exact e) m1 m2
            · have nb : b ≠ p := ne_of_none e hp
              rw [upd_ne nb]
              exact stA.tup b xs (by rw [upd_ne nb]; exact e)
            · have nb : b ≠ p := ne_of_none e hp
              rw [upd_ne nb]
              exact stA.frz b o u (by rw [upd_ne nb]; exact e)
            · by_cases nb : b = p
              · rw [nb, upd_same]; simp
              · rw [upd_ne nb]
                exact stA.there b (by rw [upd_ne nb]; exact e)
            · rcases stA.nO b q with q | q
              · exact .inl q
              · refine .inr ?_
                by_cases e : b = p
                · rw [e]; exact hp
                · rw [upd_ne e] at q; exact q
          · have hfs : ∀ b, g4.F b → ¬ b = p ∧ ¬ SrcA { g4 with sc := some (p, cc) } b := fun b q => by
              have h1 : b ≠ p := fun z => nF4 (z ▸ q)
              have h2 : b ≠ cc := fun z => n1 (z ▸ q)
              refine ⟨h1, fun ⟨w', e, z⟩ => ?_⟩
              cases e
              rcases z with z | z
              · exact h1 z
              · exact h2 z
            have ws : Step { g4 with sc := some (p, cc) } (fun b => b = p) H4 { g4 with sc := some (p, cc) } (fun b => b = p) (upd H4 p (.dK (srcK cc ⟨ns, x, y, z⟩))) := step_write (.inl rfl) hp4 (fun _ z => nomatch z) fun _ _ z => nomatch z
            have hm : ∀ {vs ds}, Reps X.K g4 H4 vs ds → Reps X.K { g4 with sc := some (p, cc) } (upd H4 p (.dK (srcK cc ⟨ns, x, y, z⟩))) vs ds := fun {vs ds} R =>
              (R.mono (g := g4) (g1 := { g4 with sc := some (p, cc) }) (fun _ h => h) (fun q hq => by rw [hsc] at hq; cases hq) rfl).step ws hfs
            refine ⟨A4.ok.len, fun i d e => ?_, fun i es e => ?_, A4.ok.dis, ⟨fun b q => ?_, fun b q => (hfs b q).2, (fun q => by cases q), fun s' q => ?_, ?_⟩⟩
            · obtain ⟨v', q1, q2⟩ := A4.ok.val i d e
              exact ⟨v', q1, (q2.mono (g := g4) (g1 := { g4 with sc := some (p, cc) }) (fun _ h => h) (fun q hq => by rw [hsc] at hq; cases hq) rfl).step ws hfs⟩
            · obtain ⟨b, ys, q1, q2, q3, q4, q5⟩ := A4.ok.own i es e
              have o1 : OwnA env4 σ b := ⟨i, es, e, q1⟩
              have m1 : b ≠ p := fun z => nop (z ▸ o1)
              have m2 : b ≠ cc := fun z => n3 (z ▸ o1)
              refine ⟨b, ys, q1, q2, fun ⟨w', e', z⟩ => ?_, by rw [upd_ne m1]; exact q4, hm q5⟩
              cases e'
              rcases z with z | z
              · exact m1 z
              · exact m2 z
            · rw [upd_ne (hfs b q).1]
              exact A4.ok.gh.fr b q
            · cases q
              exact ⟨p, cc, rfl, npc, upd_same, by rw [upd_ne npc.symm]; exact n4⟩
            · rcases A4.ok.gh.scr with ⟨o, q⟩ | q
              · refine .inl ⟨o, ?_⟩
                rw [upd_ne (ne_of q hp4 (fun z => nomatch z))]
                exact q
              · exact .inr q
      · cases e4
    · cases e4
  · cases e4
end
end Iv
end

section
set_option Elab.async false
set_option linter.all false
set_option autoImplicit false
set_option maxRecDepth 100000
namespace Iv
open PySem PySem.Spec PyProof.Rows L2
section
variable {X : Cx} {M : Nm} {T : Tab} {sc : Scope} {top : Bool} {L : Nat}

/-! ### storing -/
section
variable {K : PySem.W.Frag} {g g1 : Gh} {H : Hp} {O : Addr → Prop} {env env1 : Env} {S S' : Sta} {σ : L2.St} {v : V}
theorem set_get {σ : L2.St} {i j : Nat} {v : V} {o : Option V} (h : σ[j]? = some o) : (σ.set i (some v))[j]? = some (if i = j then some v else o) := by
  rw [List.getElem?_set]
  have hl : j < σ.length := (List.getElem?_eq_some_iff.mp h).1
  by_cases e : i = j
  · subst e; simp [hl]
  · simp [e, h]
/-- data is stored -/
theorem IOk.put (I : IOk K g env S σ H) {j : Nat} {d : D} (R : Rep K g H v d) : IOk K g (eput env j (.val d)) S (σ.set j (some v)) H ∧ ∀ a, OwnA (eput env j (.val d)) (σ.set j (some v)) a → OwnA env σ a := by
  have nv : ∀ es, Slot.val d ≠ .own es := fun es z => nomatch z
  have back : ∀ {i : Nat} {es : List D} {a : Addr}, eget (eput env j (.val d)) i = .own es → (σ.set j (some v))[i]? = some (some (.ref a)) → eget env i = .own es ∧ σ[i]? = some (some (.ref a)) := by
    intro i es a e1 e2
    have e1' := own_put nv e1
    refine ⟨e1', ?_⟩
    by_cases z : j = i
    · subst z
      rw [eget_put_same (eget_lt (by rw [e1']; simp))] at e1
      cases e1
    · rw [List.getElem?_set_ne z] at e2
      exact e2
  refine ⟨⟨by rw [eput_len, List.length_set]; exact I.len, fun i e h => ?_, fun i es h => ?_, fun i l es fs a e1 e2 h1 h2 => ?_, I.gh⟩, fun a h => ?_⟩
  · rw [eget_eput] at h
    split at h
    · rename_i z
      cases h
      obtain ⟨z1, z2⟩ := z
      subst z1
      refine ⟨v, ?_, R⟩
      rw [List.getElem?_set_self (by rw [← I.len]; exact z2)]
    · rename_i z
      obtain ⟨w, q1, q2⟩ := I.val i e h
      refine ⟨w, ?_, q2⟩
      rw [set_get q1, if_neg]
      rintro rfl
      exact z ⟨rfl, eget_lt (by rw [h]; simp)⟩
  · have h' := own_put nv h
    obtain ⟨a, xs, q1, q2, q3, q4, q5⟩ := I.own i es h'
    refine ⟨a, xs, ?_, q2, q3, q4, q5⟩
    rw [set_get q1, if_neg]
    rintro rfl
    rw [eget_put_same (eget_lt (by rw [h']; simp))] at h
    cases h
  · obtain ⟨a1, a2⟩ := back e1 h1
    obtain ⟨b1, b2⟩ := back e2 h2
    exact I.dis i l es fs a a1 b1 a2 b2
  · obtain ⟨i, es, e1, e2⟩ := h
    obtain ⟨a1, a2⟩ := back e1 e2
    exact ⟨i, es, a1, a2⟩
/-- a new list is stored -/
theorem IOk.putOwn (I : IOk K g env S σ H) {j : Nat} {a : Addr} {xs : List V} {ds : List D} (h1 : ¬ g.F a) (h2 : ¬ SrcA g a) (h3 : ¬ OwnA env σ a) (h4 : H a = some (.lst xs)) (h5 : Reps K g H xs ds) :
    IOk K g (eput env j (.own ds)) S (σ.set j (some (.ref a))) H ∧ ∀ b, OwnA (eput env j (.own ds)) (σ.set j (some (.ref a))) b → OwnA env σ b ∨ b = a := by
  have back : ∀ {i : Nat} {es : List D} {b : Addr}, eget (eput env j (.own ds)) i = .own es → (σ.set j (some (.ref a)))[i]? = some (some (.ref b)) → (eget env i = .own es ∧ σ[i]? = some (some (.ref b)) ∧ i ≠ j) ∨ (i = j ∧ b = a) := by
    intro i es b e1 e2
    by_cases z : i = j
    · subst z
      have hl : i < σ.length := by
        have := (List.getElem?_eq_some_iff.mp e2).1
        rwa [List.length_set] at this
      rw [List.getElem?_set_self hl] at e2
      cases e2
      exact .inr ⟨rfl, rfl⟩
    · rw [eget_put_ne z] at e1
      rw [List.getElem?_set_ne (Ne.symm z)] at e2
      exact .inl ⟨e1, e2, z⟩
  refine ⟨⟨by rw [eput_len, List.length_set]; exact I.len, fun i e h => ?_, fun i es h => ?_, fun i l es fs b e1 e2 q1 q2 => ?_, I.gh⟩, fun b h => ?_⟩
  · rw [eget_eput] at h
    split at h
    · cases h
    · rename_i z
      obtain ⟨w, q1, q2⟩ := I.val i e h
      refine ⟨w, ?_, q2⟩
      rw [set_get q1, if_neg]
      rintro rfl
      exact z ⟨rfl, eget_lt (by rw [h]; simp)⟩
  · rw [eget_eput] at h
    split at h
    · rename_i z
      cases h
      obtain ⟨z1, z2⟩ := z
      subst z1
      exact ⟨a, xs, by rw [List.getElem?_set_self (by rw [← I.len]; exact z2)], h1, h2, h4, h5⟩
    · rename_i z
      obtain ⟨b, ys, q1, q2, q3, q4, q5⟩ := I.own i es h
      refine ⟨b, ys, ?_, q2, q3, q4, q5⟩
      rw [set_get q1, if_neg]
      rintro rfl
      exact z ⟨rfl, eget_lt (by rw [h]; simp)⟩
  · rcases back e1 q1 with ⟨a1, a2, a3⟩ | ⟨a1, a2⟩
    · rcases back e2 q2 with ⟨b1, b2, b3⟩ | ⟨b1, b2⟩
      · exact I.dis i l es fs b a1 b1 a2 b2
      · subst b2
        exact absurd ⟨i, es, a1, a2⟩ h3
    · rcases back e2 q2 with ⟨b1, b2, b3⟩ | ⟨b1, b2⟩
      · subst a2
        exact absurd ⟨l, fs, b1, b2⟩ h3
      · rw [a1, b1]
  · obtain ⟨i, es, e1, e2⟩ := h
    rcases back e1 e2 with ⟨a1, a2, _⟩ | ⟨_, a2⟩
    · exact .inl ⟨i, es, a1, a2⟩
    · exact .inr a2
/-- a value is stored in a name -/
theorem store_ok' {rv : RV} {j : Nat} (I : IOk K g env S σ H) (R : RVR K g (OwnA env σ) σ H v rv) (e : store rv j env = some env1) :
    ∃ g', Step g (fun a => OwnA env σ a ∨ NewA v rv a) H g' (OwnA env1 (σ.set j (some v))) H ∧ IOk K g' env1 S (σ.set j (some v)) H := by
  cases rv with
  | val d =>
    cases e
    obtain ⟨I1, o1⟩ := I.put (j := j) R
    exact ⟨g, Step.refl.shrink fun a z => .inl (o1 a z), I1⟩
  | new ds =>
    cases e
    obtain ⟨a, xs, rfl, h1, h2, h3, h4, h5⟩ := R
    obtain ⟨I1, o1⟩ := I.putOwn (j := j) h1 h2 h3 h4 h5
    refine ⟨g, Step.refl.shrink fun b z => ?_, I1⟩
    rcases o1 b z with z | z
    · exact .inl z
    · exact .inr ⟨⟨ds, rfl⟩, by rw [z]⟩
  | bor i =>
    unfold store at e
    simp only at e
    split at e
    · rename_i ds q
      cases e
      have el : (RV.bor i).look env = some (.lst ds) := by simp only [RV.look, q]
      obtain ⟨g', st, I1, R1⟩ := froz_ok I R el
      have ef : (RV.bor i).froz env = eput env i (.val (.lst ds)) := by simp only [RV.froz, q]
      rw [ef] at st I1
      obtain ⟨I2, o2⟩ := I1.put (j := j) R1
      exact ⟨g', st.shrink o2, I2⟩
    · rename_i d q
      cases e
      obtain ⟨w, q1, q2⟩ := I.val i d q
      have R : σ[i]? = some (some v) := R
      rw [R] at q1; cases q1
      obtain ⟨I1, o1⟩ := I.put (j := j) q2
      exact ⟨g, Step.refl.shrink fun a z => .inl (o1 a z), I1⟩
    · cases e
end

/-! ### targets -/
/-- which slots a target stores -/
def Keeps (tg : Tg) (σ σ' : L2.St) : Prop := ∀ vs : List Nat, tgIn vs tg = true → wipe σ' vs = wipe σ vs
def SndG (X : Cx) (tg : Tg) (pe : Expr) : Prop := ∃ t : TG, PG X pe t ∧ ∀ (g : Gh) (env env' : Env) (S : Sta) (σ : L2.St) (H : Hp) (v : V) (d : D) (Q : L2.St → Hp → Prop), IOk X.K g env S σ H → Rep X.K g H v d → bindD tg d env = some env' →
  (∀ σ', IOk X.K g env' S σ' H → (∀ a, OwnA env' σ' a → OwnA env σ a) → Keeps tg σ σ' → Q σ' H) → t v σ H Q
def SndGs (X : Cx) (ts : List Tg) (pes : List Expr) : Prop := ∃ t : TGs, PGs X pes t ∧ ∀ (g : Gh) (env env' : Env) (S : Sta) (σ : L2.St) (H : Hp) (vs : List V) (ds : List D) (Q : L2.St → Hp → Prop), IOk X.K g env S σ H → Reps X.K g H vs ds → bindDs ts ds env = some env' →
  (∀ σ', IOk X.K g env' S σ' H → (∀ a, OwnA env' σ' a → OwnA env σ a) → (∀ ws : List Nat, tgsIn ws ts = true → wipe σ' ws = wipe σ ws) → Q σ' H) → t vs σ H Q
theorem wipe_set {σ : L2.St} {j : Nat} {x : Option V} : ∀ {vs : List Nat}, j ∈ vs → wipe (σ.set j x) vs = wipe σ vs
  | [], h => nomatch h
  | w :: vs, h => by
    unfold wipe
    by_cases hj : j ∈ vs
    · rw [wipe_set hj]
    · have e : j = w := by
        rcases List.mem_cons.mp h with h | h
        · exact h
        · exact absurd h hj
      subst e
      have : ∀ ws : List Nat, j ∉ ws → wipe (σ.set j x) ws = (wipe σ ws).set j x := by
        intro ws
        induction ws with
        | nil => intro _; rfl
        | cons a ws ih =>
          intro hn
          have h1 : j ∉ ws := fun z => hn (List.mem_cons_of_mem _ z)
          have h2 : a ≠ j := fun z => hn (z ▸ List.mem_cons_self)
          unfold wipe
          rw [ih h1, List.set_comm _ _ h2.symm]
      rw [this vs hj]
      simp
theorem CtxOk.loc (C : CtxOk X M T sc top L) {x : Str} (h : locC top sc x = true) : Loc X.env.scope x ∧ (X.fn x = true ∨ X.env.scope.names.lookup x = some .local) := by
  rw [C.hsc]
  unfold locC at h
  simp only [Bool.or_eq_true, Bool.and_eq_true, decide_eq_true_eq] at h
  rcases h with h | ⟨h1, h2⟩
  · exact ⟨.inl h, .inr h⟩
  · exact ⟨.inr h2, .inl (C.st h1 x)⟩
theorem sndG_nm {j : Nat} {x : Str} {p : Pos} (C : CtxOk X M T sc top L) (h1 : M.N[j]? = some x) (h2 : locC top sc x = true) : SndG X (.nm j) (.Name x p) := by
  obtain ⟨l1, l2⟩ := C.loc h2
  refine ⟨_, pg_name (i := j) (by rw [C.hN]; exact C.nd) (by rw [C.hN]; exact h1) l1 l2, fun g env env' S σ H v d Q I R e kq => ?_⟩
  cases e
  obtain ⟨I1, o1⟩ := I.put (j := j) R
  refine kq _ I1 o1 fun vs hv => ?_
  have hv : vs.contains j = true := hv
  exact wipe_set (List.contains_iff_mem.mp hv)
theorem assignEach_cons {tg : Tg} {pe : Expr} (h : chkTg M.N top sc tg pe = true) (es : List Expr) (env : PySem.Env) : assignEach (pe :: es) env = (false, assign pe env) :: assignEach es env := by
  cases tg <;> cases pe <;> first | rfl | (exact absurd h Bool.false_ne_true)
theorem assignEach_len : ∀ {ts : List Tg} {es : List Expr}, chkTgs M.N top sc ts es = true → ∀ env : PySem.Env, (assignEach es env).length = es.length ∧ (assignEach es env).findIdx? (·.1) = none
  | [], [], _, env => ⟨rfl, rfl⟩
  | [], _ :: _, h, _ => nomatch h
  | _ :: _, [], h, _ => nomatch h
  | t :: ts, e :: es, h, env => by
    have h : (chkTg M.N top sc t e && chkTgs M.N top sc ts es) = true := h
    rw [Bool.and_eq_true] at h
    obtain ⟨a, b⟩ := assignEach_len h.2 env
    rw [assignEach_cons h.1 es env]
    refine ⟨by rw [List.length_cons, a, List.length_cons], ?_⟩
    rw [List.findIdx?_cons, b]
    rfl
theorem bindDs_len : ∀ {ts : List Tg} {ds : List D} {env env' : Env}, bindDs ts ds env = some env' → ds.length = ts.length := by
  intro ts
  induction ts with
  | nil =>
    intro ds env env' e
    cases ds with
    | nil => rfl
    | cons _ _ => cases e
  | cons t ts ih =>
    intro ds env env' e
    cases ds with
    | nil => cases e
    | cons d ds =>
      have e : (match bindD t d env with
        | some env' => bindDs ts ds env'
        | none => none) = some env' := e
      split at e
      · rw [List.length_cons, List.length_cons, ih e]
      · cases e
theorem chkTgs_len : ∀ {ts : List Tg} {es : List Expr}, chkTgs M.N top sc ts es = true → ts.length = es.length := by
  intro ts
  induction ts with
  | nil =>
    intro es h
    cases es with
    | nil => rfl
    | cons _ _ => cases h
  | cons t ts ih =>
    intro es h
    cases es with
    | nil => cases h
    | cons e es =>
      have h : (chkTg M.N top sc t e && chkTgs M.N top sc ts es) = true := h
      rw [Bool.and_eq_true] at h
      rw [List.length_cons, List.length_cons, ih h.2]
mutual
theorem sndG : ∀ (tg : Tg) {pe : Expr}, CtxOk X M T sc top L → chkTg M.N top sc tg pe = true → SndG X tg pe
  | .nm j, pe, C, h => by
    cases pe
    case Name x p =>
      have h : (decide (M.N[j]? = some x) && locC top sc x) = true := h
      rw [Bool.and_eq_true, decide_eq_true_eq] at h
      exact sndG_nm C h.1 h.2
    all_goals exact absurd h Bool.false_ne_true
  | .tup ts, pe, C, h => by
    cases pe
    case Tuple es k0 p =>
      have h : chkTgs M.N top sc ts es = true := h
      obtain ⟨t, pt, ft⟩ := sndGs ts C h
      obtain ⟨a, b⟩ := assignEach_len h X.env
      refine ⟨_, pg_seq C.calm pt a b, fun g env env' S σ H v d Q I R e kq => ?_⟩
      cases R with
      | @tup q xs ds h1 h2 =>
        have e : bindDs ts ds env = some env' := e
        refine .inl ⟨q, xs, rfl, h1, ?_, ft g env env' S σ H xs _ Q I h2 e fun σ' I' o' k' => kq σ' I' o' k'⟩
        rw [h2.length, bindDs_len e, chkTgs_len h]
      | @lst q xs ds h0 h1 h2 =>
        have e : bindDs ts ds env = some env' := e
        refine .inr ⟨q, xs, rfl, SqL.of h1, ?_, ft g env env' S σ H xs _ Q I h2 e fun σ' I' o' k' => kq σ' I' o' k'⟩
        rw [h2.length, bindDs_len e, chkTgs_len h]
      | _ => cases e
    all_goals exact absurd h Bool.false_ne_true
theorem sndGs : ∀ (ts : List Tg) {pes : List Expr}, CtxOk X M T sc top L → chkTgs M.N top sc ts pes = true → SndGs X ts pes
  | [], [], C, h => ⟨_, pgs_nil, fun g env env' S σ H vs ds Q I R e kq => by
      cases R with
      | nil =>
        cases e
        exact ⟨rfl, kq σ I (fun a z => z) fun ws _ => rfl⟩
      | cons _ _ => cases e⟩
  | [], _ :: _, _, h => nomatch h
  | _ :: _, [], _, h => nomatch h
  | t :: ts, pe :: pes, C, h => by
    have h : (chkTg M.N top sc t pe && chkTgs M.N top sc ts pes) = true := h
    rw [Bool.and_eq_true] at h
    obtain ⟨t1, p1, f1⟩ := sndG t C h.1
    obtain ⟨t2, p2, f2⟩ := sndGs ts C h.2
    refine ⟨_, pgs_cons p1 p2 (by rw [assignEach_cons h.1 pes X.env]; rfl), fun g env env' S σ H vs ds Q I R e kq => ?_⟩
    cases R with
    | nil => cases e
    | @cons v vs d ds r1 r2 =>
      have e : (match bindD t d env with
        | some env' => bindDs ts ds env'
        | none => none) = some env' := e
      split at e
      · rename_i env1 q
        refine ⟨v, vs, rfl, f1 g env env1 S σ H v d _ I r1 q fun σ1 I1 o1 k1 => f2 g env1 env' S σ1 H vs ds _ I1 r2 e fun σ2 I2 o2 k2 => kq σ2 I2 (fun a z => o1 a (o2 a z)) fun ws hw => ?_⟩
        have hw : (tgIn ws t && tgsIn ws ts) = true := hw
        rw [Bool.and_eq_true] at hw
        rw [k2 ws hw.2, k1 ws hw.1]
      · cases e
end
end
end Iv
end

section
set_option Elab.async false
set_option linter.all false
set_option autoImplicit false
set_option maxRecDepth 100000
namespace Iv
open PySem PySem.Spec PyProof.Rows L2
section
variable {X : Cx} {M : Nm} {T : Tab} {sc : Scope} {top : Bool} {L : Nat}

/-! ### walks -/
/-- a later state: what could be read still can -/
structure Later (K : PySem.W.Frag) (g : Gh) (H : Hp) (g1 : Gh) (H1 : Hp) : Prop where
  rep : ∀ {v d}, Rep K g H v d → Rep K g1 H1 v d
  reps : ∀ {v d}, Reps K g H v d → Reps K g1 H1 v d
  lst : ∀ a xs, g.F a → H a = some (.lst xs) → H1 a = some (.lst xs)
  tup : ∀ a xs, SqT K H a xs → SqT K H1 a xs
  frz : ∀ b o u, H b = some (.frz o u) → H1 b = some (.frz o u)
theorem Later.of {K : PySem.W.Frag} {g g1 : Gh} {H H1 : Hp} {O O1 : Addr → Prop} (s : Step g O H g1 O1 H1) (h : ∀ a, g.F a → ¬ O a ∧ ¬ SrcA g a) : Later K g H g1 H1 :=
  ⟨fun r => r.step s h, fun r => r.step s h, fun a xs q e => s.keep a _ e (h a q).1 (h a q).2, fun _ _ q => s.seqT q, s.frz⟩
theorem Later.refl {K : PySem.W.Frag} {g : Gh} {H : Hp} : Later K g H g H := ⟨id, id, fun _ _ _ e => e, fun _ _ q => q, fun _ _ _ e => e⟩
structure Walks (K : PySem.W.Frag) (g0 : Gh) (H0 : Hp) (J : L2.It) (ds : List D) : Prop where
  go : ∀ i g H, Later K g0 H0 g H → i < ds.length → J.go i H
  stop : ∀ i g H, Later K g0 H0 g H → ds.length ≤ i → J.stop i H
  yld : ∀ i g H x H', Later K g0 H0 g H → (∀ a, g.F a → ¬ SrcA g a) → J.yld i H x H' → i < ds.length → ∃ d, ds[i]? = some d ∧ Rep K g H' x d ∧ (H' = H ∨ ∃ p o, H p = none ∧ H' = upd H p o)
section
variable {K : PySem.W.Frag} {g0 : Gh} {H0 : Hp} {xs : List V} {ds : List D} {a : Addr}
theorem walks_list (hl : ∀ g H, Later K g0 H0 g H → SqL K H a xs) (R : Reps K g0 H0 xs ds) : Walks K g0 H0 (Itl K a) ds where
  go := fun i g H l h => ⟨xs, xs[i]'(by rw [R.length]; exact h), hl g H l, by simp⟩
  stop := fun i g H l h => ⟨xs, hl g H l, by rw [R.length]; exact h⟩
  yld := fun i g H x H' l _ y _ => by
    obtain ⟨rfl, y⟩ := y
    obtain ⟨d, h1, h2⟩ := R.get (y xs (hl g _ l))
    exact ⟨d, h1, l.rep h2, .inl rfl⟩
theorem walks_tup (h : SqT K H0 a xs) (R : Reps K g0 H0 xs ds) : Walks K g0 H0 (Itt K a) ds where
  go := fun i g H l h' => ⟨xs, xs[i]'(by rw [R.length]; exact h'), l.tup _ _ h, by simp⟩
  stop := fun i g H l h' => ⟨xs, l.tup _ _ h, by rw [R.length]; exact h'⟩
  yld := fun i g H x H' l _ y _ => by
    obtain ⟨rfl, y⟩ := y
    obtain ⟨d, h1, h2⟩ := R.get (y xs (l.tup _ _ h))
    exact ⟨d, h1, l.rep h2, .inl rfl⟩
theorem rangeD_len : ∀ (n : Nat) (lo : Int), (rangeD lo n).length = n
  | 0, _ => rfl
  | n + 1, lo => by rw [rangeD, List.length_cons, rangeD_len n]
theorem rangeD_get : ∀ (n : Nat) (lo : Int) (i : Nat), i < n → (rangeD lo n)[i]? = some (.int (lo + i))
  | n + 1, lo, 0, _ => by simp [rangeD]
  | n + 1, lo, i + 1, h => by
    rw [rangeD, List.getElem?_cons_succ, rangeD_get n (lo + 1) i (by omega)]
    congr 2
    omega
theorem walks_rng (lo : Int) (n : Nat) : Walks K g0 H0 (Itr lo n) (rangeD lo n) where
  go := fun i g H l h => by rw [rangeD_len] at h; exact h
  stop := fun i g H l h => by rw [rangeD_len] at h; exact h
  yld := fun i g H x H' l _ y hi => by
    obtain ⟨rfl, rfl⟩ := y
    rw [rangeD_len] at hi
    exact ⟨_, rangeD_get n lo i hi, .int _, .inl rfl⟩
theorem enumD_len : ∀ (ds : List D) (k : Nat), (enumD k ds).length = ds.length
  | [], _ => rfl
  | d :: ds, k => by rw [enumD, List.length_cons, enumD_len ds, List.length_cons]
theorem enumD_get : ∀ (ds : List D) (k i : Nat) (d : D), ds[i]? = some d → (enumD k ds)[i]? = some (.tup [.int ((k + i : Nat) : Int), d])
  | [], _, _, _, h => by simp at h
  | x :: ds, k, 0, d, h => by
    simp at h; subst h
    simp [enumD]
  | x :: ds, k, i + 1, d, h => by
    rw [enumD, List.getElem?_cons_succ, enumD_get ds (k + 1) i d (by simpa using h)]
    congr 5
    omega
theorem walks_enum (hl : ∀ g H, Later K g0 H0 g H → SqL K H a xs) (R : Reps K g0 H0 xs ds) : Walks K g0 H0 (Ite K a) (enumD 0 ds) where
  go := fun i g H l h => by
    rw [enumD_len] at h
    exact ⟨xs, xs[i]'(by rw [R.length]; exact h), hl g H l, by simp⟩
  stop := fun i g H l h => by
    rw [enumD_len] at h
    exact ⟨xs, hl g H l, by rw [R.length]; exact h⟩
  yld := fun i g H x H' l hS y _ => by
    obtain ⟨p, z, rfl, hp, rfl, y⟩ := y
    obtain ⟨d, h1, h2⟩ := R.get (y xs (hl g _ l))
    refine ⟨_, enumD_get ds 0 i d h1, ?_, .inr ⟨p, _, hp, rfl⟩⟩
    have s : Step g (fun _ => False) H g (fun b => False ∨ b = p) (upd H p (.tup [.int ((i : Nat) : Int), z])) := step_alloc hp
    rw [Nat.zero_add]
    exact .tup (SqT.of upd_same) (.cons (.int _) (.cons ((l.rep h2).step s fun b q => ⟨fun z => z, hS b q⟩) .nil))
end
def SndI (X : Cx) (T : Tab) (it : It) (tg piter : Expr) : Prop := ∃ wi : TI, PI X tg piter wi ∧ ∀ (g : Gh) (env : Env) (S : Sta) (σ : L2.St) (H : Hp) (k : KDs) (r : RV × Sta) (R : L2.It → Hp → Prop), IOk X.K g env S σ H → wlk T it env S k = some r →
  (∀ J ds g' env' S' H', Step g (OwnA env σ) H g' (OwnA env' σ) H' → IOk X.K g' env' S' σ H' → Walks X.K g' H' J ds → k ds env' S' = some r → R J H') → wi σ H R
/-- a list or a tuple, known when it has come -/
def iSeq (K : PySem.W.Frag) (tl : TE) : TI := fun σ H R => tl σ H fun x H1 => ∃ a, x = .ref a ∧ (((∃ xs, SqL K H1 a xs) ∧ R (Itl K a) H1) ∨ ((∃ xs, SqT K H1 a xs) ∧ R (Itt K a) H1))
theorem pi_seq {tg l : Expr} {tl : TE} (hl : PE X l tl) : PI X tg l (iSeq X.K tl) := by
  refine ⟨fun pins s σ H R I h => thn (hl.run pins s σ H _ I h) fun v s1 ⟨x, H1, I1, r1, q1⟩ => ?_⟩
  obtain ⟨a, e, q1⟩ := q1
  subst e
  have hv : v = Value.ref a := r1
  subst hv
  have fin : ∀ b ∈ [s1.heap.objs.size], FpOk X pins H1 b := fun b hb => by
    rw [List.mem_singleton.mp hb]
    exact I1.fpOk (Nat.le_refl _) (I1.hok.fresh (Nat.le_refl _))
  rcases q1 with ⟨⟨xs, hq⟩, q⟩ | ⟨⟨xs, hq⟩, q⟩
  · obtain ⟨its, rv, p, _⟩ := I1.list hq
    exact wpAny_pyIter_list p.isList ⟨_, [s1.heap.objs.size], _, _, H1, rfl, I1.kept (t' := s1.toks) fun b o e => Heap.get?_push_of_some _ e, turn_list a _, ⟨_, Heap.get?_push_size _ rfl, rfl, rfl⟩, fin, q⟩
  · obtain ⟨its, rv, p, _⟩ := I1.tuple hq
    have p' : s1.heap.IsTuple a its.toArray := p
    exact wpAny_pyIter_tuple p' ⟨_, [s1.heap.objs.size], _, _, H1, rfl, I1.kept (t' := s1.toks) fun b o e => Heap.get?_push_of_some _ e, turn_tuple a _, ⟨_, Heap.get?_push_size _ rfl, rfl, rfl⟩, fin, q⟩
theorem later_F {K : PySem.W.Frag} {g : Gh} {H : Hp} {a : Addr} {xs : List V} (h1 : g.F a) (h2 : H a = some (.lst xs)) : ∀ g1 H1, Later K g H g1 H1 → SqL K H1 a xs := fun g1 H1 l => SqL.of (l.lst a xs h1 h2)
theorem sndI_seq {e : E} {tg x : Expr} (A : Snd X T e x) : SndI X T (.seq e) tg x := by
  obtain ⟨ta, pa, fa⟩ := A
  refine ⟨_, pi_seq pa, fun g env S σ H k r R I e kq => ?_⟩
  rw [wlk_seq] at e
  refine fa _ _ _ _ _ _ _ _ I e fun v ra g1 env1 S1 H1 A1 e1 => ?_
  obtain ⟨d, g2, env2, A2, e2⟩ := A1.toD e1
  split at e2
  · rename_i xs
    cases A2.rep with
    | lst h1 h2 h3 => exact ⟨_, rfl, .inl ⟨⟨_, SqL.of h2⟩, kq _ _ _ _ _ _ A2.st A2.ok (walks_list (later_F h1 h2) h3) e2⟩⟩
  · cases A2.rep with
    | tup h1 h2 => exact ⟨_, rfl, .inr ⟨⟨_, h1⟩, kq _ _ _ _ _ _ A2.st A2.ok (walks_tup h1 h2) e2⟩⟩
  · generalize hd : D.scr = d0 at *
    cases A2.rep with
    | scr =>
      have hs : ∀ gg HH, Later X.K g2 H1 gg HH → SqL X.K HH g2.sa (S1.scr.map V.int) := fun gg HH l => by
        rcases A2.ok.gh.scr with ⟨o, z⟩ | z
        · exact .inl (.inr ⟨o, l.frz _ _ _ z⟩)
        · exact z HH
      exact ⟨_, rfl, .inl ⟨⟨_, hs g2 H1 .refl⟩, kq _ _ _ _ _ _ A2.st A2.ok (walks_list hs (Reps.ofInts _)) e2⟩⟩
    | _ => cases hd
  · cases e2
theorem rgOk_iff {i : Int} (h : rgOk i = true) : -(2 ^ 62) ≤ i ∧ i < 2 ^ 62 := by
  unfold rgOk at h
  simp only [Bool.and_eq_true, decide_eq_true_eq] at h
  omega
theorem sndI_rg1 {e : E} {tg y : Expr} {x : Str} {px p : Pos} (C : CtxOk X M T sc top L) (h1 : x = "range") (h2 : glC sc x = true) (h3 : chkE M sc e y = true) (A : Snd X T e y) : SndI X T (.rg1 e) tg (.Call (.Name x px) [y] [] p) := by
  obtain ⟨ta, pa, fa⟩ := A
  obtain ⟨hg, hn⟩ := C.gl h2
  subst h1
  refine ⟨_, pi_range1 hg (C.blt _ (by decide +kernel)) (pa_cons pa pa_nil (starEach_of h3 [] X.env)) (starEach_of h3 [] X.env), fun g env S σ H k r R I e kq => ?_⟩
  rw [wlk_rg1] at e
  refine fa _ _ _ _ _ _ _ _ I e fun v ra g1 env1 S1 H1 A1 e1 => ?_
  obtain ⟨i, rfl, e2⟩ := asInt_inv e1
  split at e2
  · rename_i hr
    obtain ⟨b1, b2⟩ := rgOk_iff hr
    exact ⟨i, by rw [A1.int], b1, b2, kq _ _ _ _ _ _ A1.one A1.ok (walks_rng 0 _) e2⟩
  · cases e2
theorem sndI_rg2 {a b : E} {tg y z : Expr} {x : Str} {px p : Pos} (C : CtxOk X M T sc top L) (h1 : x = "range") (h2 : glC sc x = true) (h3 : chkE M sc a y = true) (h4 : chkE M sc b z = true) (A : Snd X T a y) (B : Snd X T b z) :
    SndI X T (.rg2 a b) tg (.Call (.Name x px) [y, z] [] p) := by
  obtain ⟨ta, pa, fa⟩ := A
  obtain ⟨tb, pb, fb⟩ := B
  obtain ⟨hg, hn⟩ := C.gl h2
  subst h1
  have s1 := starEach_of h4 [] X.env
  have s2 := starEach_of h3 [z] X.env
  refine ⟨_, pi_range2 hg (C.blt _ (by decide +kernel)) (pa_cons pa (pa_cons pb pa_nil s1) s2) (by rw [s2, s1]; rfl) s1, fun g env S σ H k r R I e kq => ?_⟩
  rw [wlk_rg2] at e
  refine fa _ _ _ _ _ _ _ _ I e fun v ra g1 env1 S1 H1 A1 e1 => ?_
  obtain ⟨i, rfl, e2⟩ := asInt_inv e1
  refine fb _ _ _ _ _ _ _ _ A1.ok e2 fun w rb g2 env2 S2 H2 A2 e3 => ?_
  obtain ⟨j, rfl, e4⟩ := asInt_inv e3
  split at e4
  · rename_i hr
    rw [Bool.and_eq_true] at hr
    obtain ⟨b1, b2⟩ := rgOk_iff hr.1
    obtain ⟨b3, b4⟩ := rgOk_iff hr.2
    exact ⟨i, j, by rw [A1.int, A2.int], ⟨b1, b2, b3, b4⟩, kq _ _ _ _ _ _ (A1.one.trans A2.one) A2.ok (walks_rng i _) e4⟩
  · cases e4
theorem sndI_enu {e : E} {y : Expr} {es : List Expr} {k0 : Nat} {x : Str} {px p pt : Pos} (C : CtxOk X M T sc top L) (h1 : x = "enumerate") (h2 : glC sc x = true) (h3 : chkE M sc e y = true) (A : Snd X T e y) :
    SndI X T (.enu e) (.Tuple es k0 pt) (.Call (.Name x px) [y] [] p) := by
  obtain ⟨ta, pa, fa⟩ := A
  obtain ⟨hg, hn⟩ := C.gl h2
  subst h1
  refine ⟨_, pi_enum hg (C.blt _ (by decide +kernel)) (pa_cons pa pa_nil (starEach_of h3 [] X.env)) (starEach_of h3 [] X.env), fun g env S σ H k r R I e kq => ?_⟩
  rw [wlk_enu] at e
  refine fa _ _ _ _ _ _ _ _ I e fun v ra g1 env1 S1 H1 A1 e1 => ?_
  obtain ⟨d, g2, env2, A2, e2⟩ := A1.toD e1
  split at e2
  · cases A2.rep with
    | lst q1 q2 q3 => exact ⟨_, _, rfl, SqL.of q2, kq _ _ _ _ _ _ A2.st A2.ok (walks_enum (later_F q1 q2) q3) e2⟩
  · cases e2
end
end Iv
end

section
set_option Elab.async false
set_option linter.all false
set_option autoImplicit false
set_option maxRecDepth 100000
namespace Iv
open PySem PySem.Spec PyProof.Rows L2

/-! ### one reading for many contexts -/
section
variable {ι : Type} {F : ι → Cx} {K : PySem.W.Frag} {T : Tab}
theorem snd_all {e : E} {pe : Expr} (hK : ∀ i, (F i).K = K) (h : ∀ i, Snd (F i) T e pe) : ∃ t : TE, (∀ i, PE (F i) pe t) ∧ ∀ (g : Gh) (env : Env) (S : Sta) (σ : L2.St) (H : Hp) (k : KE) (r : RV × Sta) (Q : VK), IOk K g env S σ H → ev T e env S k = some r →
    (∀ v rv g' env' S' H', After K g env σ H v rv g' env' S' H' → k rv env' S' = some r → Q v H') → t σ H Q := by
  refine ⟨fun σ H Q => ∀ i pins s, Inv (F i) pins σ H s → wpAny (model (F i).prog (F i).w) (F i).A (eval pe (F i).env) (EP (F i) pins σ Q) (F i).xe s, fun i => ⟨fun pins s σ H Q I q => q i pins s I⟩, fun g env S σ H k r Q I e kq i pins s J => ?_⟩
  obtain ⟨t, pt, ft⟩ := h i
  refine pt.run pins s σ H Q J (ft g env S σ H k r Q (by rw [hK]; exact I) e fun v rv g' env' S' H' A e' => kq v rv g' env' S' H' (by rw [← hK i]; exact A) e')
theorem sndG_all {tg : Tg} {pe : Expr} (hK : ∀ i, (F i).K = K) (h : ∀ i, SndG (F i) tg pe) : ∃ t : TG, (∀ i, PG (F i) pe t) ∧ ∀ (g : Gh) (env env' : Env) (S : Sta) (σ : L2.St) (H : Hp) (v : V) (d : D) (Q : L2.St → Hp → Prop), IOk K g env S σ H → Rep K g H v d → bindD tg d env = some env' →
    (∀ σ', IOk K g env' S σ' H → (∀ a, OwnA env' σ' a → OwnA env σ a) → Keeps tg σ σ' → Q σ' H) → t v σ H Q := by
  refine ⟨fun v σ H Q => ∀ i pins s u, Inv (F i) pins σ H s → RelV v u → wpAny (model (F i).prog (F i).w) (F i).A (assign pe (F i).env u) (fun _ s' => ∃ σ' H', Inv (F i) pins σ' H' s' ∧ Q σ' H') (F i).xe s,
    fun i => ⟨fun pins s σ H v u Q I rv q => q i pins s u I rv⟩, fun g env env' S σ H v d Q I R e kq i pins s u J rv => ?_⟩
  obtain ⟨t, pt, ft⟩ := h i
  exact pt.run pins s σ H v u Q J rv (ft g env env' S σ H v d Q (by rw [hK]; exact I) (by rw [hK]; exact R) e fun σ' I' o' k' => kq σ' (by rw [← hK i]; exact I') o' k')
def SndC (X : Cx) (T : Tab) (c : Option E) (pes : List Expr) : Prop := ∃ t : TT, PTs X pes t ∧ ∀ (g : Gh) (env : Env) (S : Sta) (σ : L2.St) (H : Hp) (k : KB) (r : RV × Sta) (Q : Bool → Hp → Prop), IOk X.K g env S σ H → evc T c env S k = some r →
  (∀ b g' env' S' H', Step g (OwnA env σ) H g' (OwnA env' σ) H' → IOk X.K g' env' S' σ H' → k b env' S' = some r → Q b H') → t σ H Q
theorem sndC_none {X : Cx} : SndC X T none [] := ⟨_, pts_nil, fun g env S σ H k r Q I e kq => kq true _ _ _ _ .refl I e⟩
theorem sndC_some {X : Cx} {e : E} {x : Expr} (A : SndT X T e x) : SndC X T (some e) [x] := by
  obtain ⟨ta, pa, fa⟩ := A
  exact ⟨_, pts_one pa, fa⟩
theorem sndC_all {c : Option E} {pes : List Expr} (hK : ∀ i, (F i).K = K) (h : ∀ i, SndC (F i) T c pes) : ∃ t : TT, (∀ i, PTs (F i) pes t) ∧ ∀ (g : Gh) (env : Env) (S : Sta) (σ : L2.St) (H : Hp) (k : KB) (r : RV × Sta) (Q : Bool → Hp → Prop), IOk K g env S σ H → evc T c env S k = some r →
    (∀ b g' env' S' H', Step g (OwnA env σ) H g' (OwnA env' σ) H' → IOk K g' env' S' σ H' → k b env' S' = some r → Q b H') → t σ H Q := by
  refine ⟨fun σ H Q => ∀ i pins s, Inv (F i) pins σ H s →
    wpAny (model (F i).prog (F i).w) (F i).A (forIn pes true fun c r => if r = true then do let ok ← isTrue c (F i).env (eval c (F i).env); pure (ForInStep.yield ok) else pure (ForInStep.yield r)) (TP (F i) pins σ Q) (F i).xe s, fun i => ⟨fun pins s σ H Q I q => q i pins s I⟩, fun g env S σ H k r Q I e kq i pins s J => ?_⟩
  obtain ⟨t, pt, ft⟩ := h i
  exact pt.run pins s σ H Q J (ft g env S σ H k r Q (by rw [hK]; exact I) e fun b g' env' S' H' st I' e' => kq b g' env' S' H' st (by rw [← hK i]; exact I') e')
end

/-! ### the comprehension's own names -/
section
variable {K : PySem.W.Frag} {g g1 : Gh} {H H1 : Hp} {P O1 : Addr → Prop} {env : Env} {S S' : Sta} {σ : L2.St}
/-- a step that may write what no slot owns -/
theorem IOk.step' (I : IOk K g env S σ H) (s : Step g P H g1 O1 H1) (hP : ∀ a, P a → ¬ OwnA env σ a ∧ ¬ g.F a) (G : GhOk K g1 S' H1) : IOk K g1 env S' σ H1 where
  len := I.len
  val := fun i d e => by
    obtain ⟨v, h1, h2⟩ := I.val i d e
    exact ⟨v, h1, h2.step s fun a h => ⟨fun z => (hP a z).2 h, I.gh.fs a h⟩⟩
  own := fun i ds e => by
    obtain ⟨a, xs, h1, h2, h3, h4, h5⟩ := I.own i ds e
    have nP : ¬ P a := fun z => (hP a z).1 ⟨i, ds, e, h1⟩
    refine ⟨a, xs, h1, fun z => ?_, s.srcA h4 h3, s.keep a _ h4 nP h3, h5.step s fun a h => ⟨fun z => (hP a z).2 h, I.gh.fs a h⟩⟩
    rcases s.nF a z with z | z | z
    · exact h2 z
    · rw [h4] at z; cases z
    · exact nP z
  dis := I.dis
  gh := G
theorem own_none {j i : Nat} {ds : List D} (h : eget (eput env j .none) i = .own ds) : eget env i = .own ds ∧ i ≠ j := by
  by_cases z : i = j
  · subst z
    by_cases hl : i < env.length
    · rw [eget_put_same hl] at h; cases h
    · rw [eget_eput, if_neg fun q => hl q.2] at h
      exact absurd (eget_lt (by rw [h]; simp)) hl
  · rw [eget_put_ne z] at h
    exact ⟨h, z⟩
theorem IOk.clear (I : IOk K g env S σ H) (j : Nat) : IOk K g (eput env j .none) S (σ.set j none) H ∧ ∀ a, OwnA (eput env j .none) (σ.set j none) a → OwnA env σ a := by
  have back : ∀ {i : Nat} {a : Addr}, i ≠ j → (σ.set j none)[i]? = some (some (.ref a)) → σ[i]? = some (some (.ref a)) := fun {i a} z e => by
    rw [List.getElem?_set_ne (Ne.symm z)] at e
    exact e
  refine ⟨⟨by rw [eput_len, List.length_set]; exact I.len, fun i d h => ?_, fun i es h => ?_, fun i l es fs a e1 e2 h1 h2 => ?_, I.gh⟩, fun a h => ?_⟩
  · by_cases z : i = j
    · subst z
      by_cases hl : i < env.length
      · rw [eget_put_same hl] at h; cases h
      · rw [eget_eput, if_neg fun q => hl q.2] at h
        exact absurd (eget_lt (by rw [h]; simp)) hl
    · rw [eget_put_ne z] at h
      obtain ⟨w, q1, q2⟩ := I.val i d h
      exact ⟨w, by rw [List.getElem?_set_ne (Ne.symm z)]; exact q1, q2⟩
  · obtain ⟨h', z⟩ := own_none h
    obtain ⟨b, ys, q1, q⟩ := I.own i es h'
    exact ⟨b, ys, by rw [List.getElem?_set_ne (Ne.symm z)]; exact q1, q⟩
  · obtain ⟨a1, a2⟩ := own_none e1
    obtain ⟨b1, b2⟩ := own_none e2
    exact I.dis i l es fs a a1 b1 (back a2 h1) (back b2 h2)
  · obtain ⟨i, es, e1, e2⟩ := h
    obtain ⟨a1, a2⟩ := own_none e1
    exact ⟨i, es, a1, back a2 e2⟩
theorem IOk.wipe (I : IOk K g env S σ H) : ∀ vs : List Nat, IOk K g (wipeE env vs) S (L2.wipe σ vs) H ∧ ∀ a, OwnA (wipeE env vs) (L2.wipe σ vs) a → OwnA env σ a
  | [] => ⟨I, fun _ z => z⟩
  | j :: vs => by
    obtain ⟨I1, o1⟩ := IOk.wipe I vs
    obtain ⟨I2, o2⟩ := I1.clear j
    exact ⟨I2, fun a z => o1 a (o2 a z)⟩
theorem wipeE_len : ∀ vs : List Nat, (wipeE env vs).length = env.length
  | [] => rfl
  | j :: vs => by rw [wipeE, eput_len, wipeE_len vs]
theorem wipeE_out {i : Nat} : ∀ {vs : List Nat}, i ∉ vs → eget (wipeE env vs) i = eget env i
  | [], _ => rfl
  | j :: vs, h => by
    rw [wipeE, eget_put_ne (show i ≠ j from by rintro rfl; exact h List.mem_cons_self), wipeE_out fun z => h (List.mem_cons_of_mem _ z)]
theorem wipeE_in {i : Nat} : ∀ {vs : List Nat}, i ∈ vs → eget (wipeE env vs) i = .none
  | j :: vs, h => by
    rw [wipeE]
    by_cases e : i = j
    · subst e
      by_cases hl : i < (wipeE env vs).length
      · exact eget_put_same hl
      · rw [eget_eput, if_neg fun q => hl q.2]
        cases q : eget (wipeE env vs) i with
        | none => rfl
        | val d => exact absurd (eget_lt (by rw [q]; simp)) hl
        | own d => exact absurd (eget_lt (by rw [q]; simp)) hl
    · rw [eget_put_ne e]
      exact wipeE_in ((List.mem_cons.mp h).resolve_left e)
theorem backE_len {env0 : Env} : ∀ vs : List Nat, (backE env0 env vs).length = env.length
  | [] => rfl
  | j :: vs => by rw [backE, eput_len, backE_len vs]
theorem backE_out {env0 : Env} {i : Nat} : ∀ {vs : List Nat}, i ∉ vs → eget (backE env0 env vs) i = eget env i
  | [], _ => rfl
  | j :: vs, h => by
    rw [backE, eget_put_ne (show i ≠ j from by rintro rfl; exact h List.mem_cons_self), backE_out fun z => h (List.mem_cons_of_mem _ z)]
theorem backE_in {env0 : Env} (hl : env0.length = env.length) {i : Nat} : ∀ {vs : List Nat}, i ∈ vs → eget (backE env0 env vs) i = eget env0 i
  | j :: vs, h => by
    rw [backE]
    by_cases e : i = j
    · subst e
      by_cases hi : i < (backE env0 env vs).length
      · exact eget_put_same hi
      · have hn : ∀ en : Env, en.length ≤ i → eget en i = .none := fun en h => by
          cases q : eget en i with
          | none => rfl
          | val d => exact absurd (eget_lt (by rw [q]; simp)) (Nat.not_lt.mpr h)
          | own d => exact absurd (eget_lt (by rw [q]; simp)) (Nat.not_lt.mpr h)
        have h1 : env.length ≤ i := by rw [backE_len] at hi; omega
        rw [hn _ (by rw [eput_len, backE_len]; exact h1), hn env0 (by omega)]
    · rw [eget_put_ne e]
      exact backE_in hl ((List.mem_cons.mp h).resolve_left e)
theorem wipe_same {j : Nat} : ∀ {vs : List Nat}, j ∈ vs → (L2.wipe σ vs).set j none = L2.wipe σ vs
  | w :: vs, h => by
    by_cases e : j = w
    · subst e
      show ((L2.wipe σ vs).set j none).set j none = _
      rw [List.set_set]; rfl
    · show ((L2.wipe σ vs).set w none).set j none = (L2.wipe σ vs).set w none
      rw [List.set_comm _ _ (Ne.symm e), wipe_same ((List.mem_cons.mp h).resolve_left e)]
theorem wipe_wipe : ∀ {ws vs : List Nat}, (∀ j ∈ ws, j ∈ vs) → L2.wipe (L2.wipe σ vs) ws = L2.wipe σ vs
  | [], _, _ => rfl
  | w :: ws, vs, h => by
    show (L2.wipe (L2.wipe σ vs) ws).set w none = _
    rw [wipe_wipe fun j hj => h j (List.mem_cons_of_mem _ hj), wipe_same (h w List.mem_cons_self)]
end

/-! ### comprehensions -/
section
variable {X : Cx} {M : Nm} {T : Tab} {sc : Scope} {top : Bool} {L : Nat}
abbrev Blk := Shared × Hp × Addr × List (Str × Addr) × List Addr
abbrev blkC' (X : Cx) (scope : Scope) (b : Blk) : Cx := X.blk b.1 b.2.1 scope (compEnvC scope b.2.2.2.1 b.2.2.1 X.env) b.2.2.2.2
theorem CtxOk.blk (C : CtxOk X M T sc top L) {scope : Scope} (hk : scope.kind = .function) (b : Blk) : CtxOk (blkC' X scope b) M T (relS scope sc) false L where
  hN := C.hN
  hT := C.hT
  nd := C.nd
  hsc := by
    show relS scope X.env.scope = _
    rw [C.hsc]
  kind := hk
  calm := C.calm
  xe := rfl
  gd := C.gd
  room := C.room
  blt := C.blt
  fns := C.fns
  st := fun h => nomatch h
theorem own_pairs (N : List Str) (own : List Nat) : (own.map fun i => (N.getD i ("" : Str), i)).map (·.2) = own := by
  rw [List.map_map]
  exact List.map_id' own
theorem bind1_val {tg : Tg} {d : D} {env : Env} {S : Sta} {k : KS} {r : RV × Sta} (h : bind1 tg (.val d) env S k = some r) : ∃ env', bindD tg d env = some env' ∧ k env' S = some r := by
  cases tg with
  | nm j => exact ⟨_, rfl, h⟩
  | tup ts =>
    have h : (match bindD (.tup ts) d env with
      | some env' => k env' S
      | none => none) = some r := h
    split at h
    · rename_i q
      exact ⟨_, q, h⟩
    · cases h
theorem snd_lc {own : List Nat} {elt : E} {tg : Tg} {it : It} {c : Option E} {pelt ptg piter : Expr} {pifs : List Expr} {scope : Scope} (C : CtxOk X M T sc top L)
    (hw : SndI X T it ptg piter) (hf : ∀ x, foldedSetIterable piter X.env x = pure x) (hb : blkC M.N sc scope (own.map fun i => (M.N.getD i ("" : Str), i)) = true)
    (hg : ∀ b : Blk, SndG (blkC' X scope b) tg ptg) (hc : ∀ b : Blk, SndC (blkC' X scope b) T c pifs) (he : ∀ b : Blk, Snd (blkC' X scope b) T elt pelt) (ht : tgIn own tg = true) :
    ∃ (wi : TI) (g : TG) (tt : TT) (te : TE), PI X ptg piter wi ∧ (∀ b : Blk, PG (blkC' X scope b) ptg g) ∧ (∀ b : Blk, PTs (blkC' X scope b) pifs tt) ∧ (∀ b : Blk, PE (blkC' X scope b) pelt te) ∧
      ∀ (g0 : Gh) (env : Env) (S : Sta) (σ : L2.St) (H : Hp) (k : KE) (r : RV × Sta) (Q : VK), IOk X.K g0 env S σ H → ev T (.lc own elt tg it c) env S k = some r →
        (∀ v rv g' env' S' H', After X.K g0 env σ H v rv g' env' S' H' → k rv env' S' = some r → Q v H') → tLc wi g tt te own σ H Q := by
  obtain ⟨wi, pw, fw⟩ := hw
  obtain ⟨g, pg, fg⟩ := sndG_all (F := blkC' X scope) (K := X.K) (fun _ => rfl) hg
  obtain ⟨tt, pt, ft⟩ := sndC_all (F := blkC' X scope) (K := X.K) (T := T) (fun _ => rfl) hc
  obtain ⟨te, pe, fe⟩ := snd_all (F := blkC' X scope) (K := X.K) (T := T) (fun _ => rfl) he
  refine ⟨wi, g, tt, te, pw, pg, pt, pe, fun g0 env S σ H k r Q I e kq => ?_⟩
  rw [ev_lc] at e
  refine fw _ _ _ _ _ _ _ _ I e fun J ds g1 env1 S1 H1 st1 I1 Wk e1 => ?_
  intro D hD
  -- the turn
  generalize hturn : (fun (x : Iv.D) (acc : List Iv.D) (env : Env) (S : Sta) (k : List Iv.D → Env → Sta → Res) => bind1 tg (.val x) env S fun env S => evc T c env S fun b env S => match b with
        | true => ev T elt env S fun rv env S => toD rv env S fun d env S => if acc.length < LINE then k (acc ++ [d]) (wipeE env own) S else none
        | false => k acc (wipeE env own) S) = turn at e1
  have hD0 : H D = none := st1.fresh hD
  have nO1 : ¬ OwnA env1 σ D := I1.notO hD
  have nF1 : ¬ g1.F D := I1.notF hD
  have nS1 : ¬ SrcA g1 D := I1.gh.notS hD
  have I1' : IOk X.K g1 env1 S1 σ (upd H1 D (.lst [])) := I1.alloc hD
  obtain ⟨Iw, ow⟩ := I1'.wipe own
  refine ⟨fun i m H' => m = ds.length - i ∧ i ≤ ds.length ∧ ∃ gg envv SS acc accV, Step g1 (fun a => OwnA (wipeE env1 own) (L2.wipe σ own) a ∨ a = D) (upd H1 D (.lst [])) gg (fun a => OwnA envv (L2.wipe σ own) a ∨ a = D) H' ∧
      IOk X.K gg envv SS (L2.wipe σ own) H' ∧ H' D = some (.lst accV) ∧ Reps X.K gg H' accV acc ∧ ¬ gg.F D ∧ ¬ SrcA gg D ∧ ¬ OwnA envv (L2.wipe σ own) D ∧
      lcGo turn (ds.drop i) acc envv SS (fun acc env S => k (.new acc) (backE env1 env own) S) = some r,
    ⟨ds.length, rfl, Nat.zero_le _, g1, wipeE env1 own, S1, [], [], .refl, Iw, upd_same, .nil, nF1, nS1, fun z => nO1 (ow D z), e1⟩, ?_⟩
  rintro i m H' ⟨rfl, hi, gg, envv, SS, acc, accV, st, Ib, hDl, R, nF, nS, nO, e2⟩
  have later : Later X.K g1 H1 gg H' := by
    have s0 : Step g1 (fun a => OwnA (wipeE env1 own) (L2.wipe σ own) a ∨ a = D) H1 gg (fun a => OwnA envv (L2.wipe σ own) a ∨ a = D) H' :=
      ((step_alloc (O := fun a => OwnA (wipeE env1 own) (L2.wipe σ own) a ∨ a = D) hD).shrink (fun a z => .inl z)).trans st
    refine Later.of s0 fun a q => ⟨fun z => ?_, I1.gh.fs a q⟩
    rcases z with z | z
    · exact (I1.FO a q).1 (ow a z)
    · exact nF1 (z ▸ q)
  by_cases hlt : i < ds.length
  · right
    refine ⟨Wk.go i gg H' later hlt, fun H'' => ∃ m', m' < ds.length - i ∧ _ , fun H'' z => z, fun x H2 y => ?_⟩
    obtain ⟨d, hd, Rd, hH⟩ := Wk.yld i gg H' x H2 later Ib.gh.fs y hlt
    have hdrop : ds.drop i = d :: ds.drop (i + 1) := by
      obtain ⟨h1, h2⟩ := List.getElem?_eq_some_iff.mp hd
      rw [List.drop_eq_getElem_cons h1, h2]
    rw [hdrop] at e2
    rw [lcGo_cons] at e2
    generalize hkk : (fun (acc : List Iv.D) (env : Env) (S : Sta) => lcGo turn (ds.drop (i + 1)) acc env S (fun acc env S => k (.new acc) (backE env1 env own) S)) = kk at e2
    rw [← hturn] at e2
    obtain ⟨env2, hb2, e3⟩ := bind1_val e2
    -- the item may be new
    have pre : Step g1 (fun a => OwnA (wipeE env1 own) (L2.wipe σ own) a ∨ a = D) (upd H1 D (.lst [])) gg (fun a => OwnA envv (L2.wipe σ own) a ∨ a = D) H2 ∧ IOk X.K gg envv SS (L2.wipe σ own) H2 ∧ H2 D = some (.lst accV) ∧ Reps X.K gg H2 accV acc := by
      rcases hH with rfl | ⟨q, o, hq, rfl⟩
      · exact ⟨st, Ib, hDl, R⟩
      · have nq : D ≠ q := ne_of_none hDl hq
        exact ⟨st.trans ((step_alloc hq).shrink fun a z => .inl z), Ib.alloc hq, by rw [upd_ne nq]; exact hDl, R.step (step_alloc (O := fun _ => False) hq) fun a z => ⟨fun z => z, Ib.gh.fs a z⟩⟩
    obtain ⟨st2, Ib2, hD2, R2⟩ := pre
    refine fg gg envv env2 SS (L2.wipe σ own) H2 x d _ Ib2 Rd hb2 fun σ2 I2 o2 k2 => ?_
    have hw2 : L2.wipe σ2 own = L2.wipe σ own := (k2 own ht).trans (wipe_wipe fun j hj => hj)
    have nO2 : ¬ OwnA env2 σ2 D := fun z => nO (o2 D z)
    refine ⟨hw2, ft gg env2 SS σ2 H2 _ r _ I2 e3 fun b g3 env3 S3 H3 st3 I3 e4 => ?_⟩
    have st23 : Step g1 (fun a => OwnA (wipeE env1 own) (L2.wipe σ own) a ∨ a = D) (upd H1 D (.lst [])) gg (fun a => OwnA env2 σ2 a ∨ a = D) H2 := st2.shrink fun a z => by
      rcases z with z | z
      · exact .inl (o2 a z)
      · exact .inr z
    cases b with
    | true =>
      refine iteBT (fe g3 env3 S3 σ2 H3 _ r _ I3 e4 fun y' rv g4 env4 S4 H4 A4 e5 => ?_)
      obtain ⟨d', g5, env5, A5, e6⟩ := A4.toD e5
      split at e6
      · rename_i hacc
        rw [← hkk] at e6
        have s35 : Step gg (OwnA env2 σ2) H2 g5 (OwnA env5 σ2) H4 := st3.trans A5.st
        have hD5 : H4 D = some (.lst accV) := s35.keep D _ hD2 nO2 nS
        have nF5 : ¬ g5.F D := fun z => by
          rcases s35.nF D z with z | z | z
          · exact nF z
          · rw [hD2] at z; cases z
          · exact nO2 z
        have nS5 : ¬ SrcA g5 D := s35.srcA hD2 nS
        have nO5 : ¬ OwnA env5 σ2 D := fun z => by
          rcases s35.nO D z with z | z
          · exact nO2 z
          · rw [hD2] at z; cases z
        have R5 : Reps X.K g5 H4 accV acc := R2.step s35 I2.FO
        have hF5 : ∀ a, g5.F a → ¬ a = D ∧ ¬ SrcA g5 a := fun a z => ⟨fun e => nF5 (e ▸ z), A5.ok.gh.fs a z⟩
        have w1 : Step g5 (fun a => a = D) H4 g5 (fun a => a = D) (upd H4 D (.lst (accV ++ [y']))) := step_write (.inl rfl) hD5 (fun _ z => nomatch z) fun _ _ z => nomatch z
        have w2 : Step g5 (fun a => OwnA env5 σ2 a ∨ a = D) H4 g5 (fun a => OwnA env5 σ2 a ∨ a = D) (upd H4 D (.lst (accV ++ [y']))) := step_write (.inl (.inr rfl)) hD5 (fun _ z => nomatch z) fun _ _ z => nomatch z
        have G5 : GhOk X.K g5 S4 (upd H4 D (.lst (accV ++ [y']))) := A5.ok.gh.step w1 fun a z => upd_ne fun e => nS5 (e ▸ z)
        have I5 : IOk X.K g5 env5 S4 σ2 (upd H4 D (.lst (accV ++ [y']))) := A5.ok.step' w1 (fun a z => ⟨fun q => nO5 (z ▸ q), fun q => nF5 (z ▸ q)⟩) G5
        obtain ⟨I6, o6⟩ := I5.wipe own
        rw [hw2] at I6 o6
        refine ⟨accV, hD5, by rw [R5.length, sizeLine_eq]; exact hacc, ds.length - (i + 1), by omega, rfl, hlt, g5, wipeE env5 own, S4, acc ++ [d'], accV ++ [y'], ?_, I6, upd_same, ?_, nF5, nS5, fun z => nO5 (o6 D z), e6⟩
        · exact ((st23.trans (s35.frame fun a => a = D)).trans w2).shrink fun a z => by
            rcases z with z | z
            · exact .inl (o6 a z)
            · exact .inr z
        · exact (R5.append (.cons A5.rep .nil)).step w1 hF5
      · cases e6
    | false =>
      refine iteBF ?_
      rw [← hkk] at e4
      have hD5 : H3 D = some (.lst accV) := st3.keep D _ hD2 nO2 nS
      have nO5 : ¬ OwnA env3 σ2 D := fun z => by
        rcases st3.nO D z with z | z
        · exact nO2 z
        · rw [hD2] at z; cases z
      obtain ⟨I6, o6⟩ := I3.wipe own
      rw [hw2] at I6 o6
      refine ⟨ds.length - (i + 1), by omega, rfl, hlt, g3, wipeE env3 own, S3, acc, accV, ?_, I6, hD5, R2.step st3 I2.FO, fun z => ?_, st3.srcA hD2 nS, fun z => nO5 (o6 D z), e4⟩
      · exact (st23.trans (st3.frame fun a => a = D)).shrink fun a z => by
          rcases z with z | z
          · exact .inl (o6 a z)
          · exact .inr z
      · rcases st3.nF D z with z | z | z
        · exact nF z
        · rw [hD2] at z; cases z
        · exact nO2 z
  · left
    have hi' : i = ds.length := by omega
    subst hi'
    refine ⟨Wk.stop _ gg H' later (Nat.le_refl _), ?_⟩
    have e2 : k (.new acc) (backE env1 envv own) SS = some r := by
      rw [List.drop_length, lcGo_nil] at e2
      exact e2
    have hlen : env1.length = envv.length := by
      have h1 := I1.len
      have h2 := Ib.len
      rw [wipe_length] at h2
      omega
    -- what the outer slots hold
    have s0 : Step g1 (fun a => OwnA (wipeE env1 own) (L2.wipe σ own) a ∨ a = D) H1 gg (fun a => OwnA envv (L2.wipe σ own) a ∨ a = D) H' :=
      ((step_alloc (O := fun a => OwnA (wipeE env1 own) (L2.wipe σ own) a ∨ a = D) hD).shrink (fun a z => .inl z)).trans st
    have inown : ∀ {j : Nat} {es : List Iv.D} {a : Addr}, j ∈ own → eget env1 j = .own es → σ[j]? = some (some (.ref a)) → ¬ OwnA (wipeE env1 own) (L2.wipe σ own) a ∧ a ≠ D := by
      intro j es a hj e1 e2
      refine ⟨fun ⟨l, fs, q1, q2⟩ => ?_, fun z => nO1 (z ▸ ⟨j, es, e1, e2⟩)⟩
      have hl : l ∉ own := fun z => by
        rw [wipeE_in z] at q1; cases q1
      rw [wipeE_out hl] at q1
      rw [wipe_out hl] at q2
      have := I1.dis j l es fs a e1 q1 e2 q2
      exact hl (this ▸ hj)
    have Iend : IOk X.K gg (backE env1 envv own) SS σ H' := by
      refine ⟨by rw [backE_len, ← hlen]; exact I1.len, fun j d q => ?_, fun j es q => ?_, fun j l es fs a q1 q2 q3 q4 => ?_, Ib.gh⟩
      · by_cases hj : j ∈ own
        · rw [backE_in hlen hj] at q
          obtain ⟨v, h1, h2⟩ := I1.val j d q
          exact ⟨v, h1, later.rep h2⟩
        · rw [backE_out hj] at q
          obtain ⟨v, h1, h2⟩ := Ib.val j d q
          rw [wipe_out hj] at h1
          exact ⟨v, h1, h2⟩
      · by_cases hj : j ∈ own
        · rw [backE_in hlen hj] at q
          obtain ⟨a, xs, h1, h2, h3, h4, h5⟩ := I1.own j es q
          obtain ⟨m1, m2⟩ := inown hj q h1
          refine ⟨a, xs, h1, fun z => ?_, s0.srcA h4 h3, s0.keep a _ h4 (fun z => z.elim m1 m2) h3, later.reps h5⟩
          rcases s0.nF a z with z | z | z
          · exact h2 z
          · rw [h4] at z; cases z
          · exact z.elim m1 m2
        · rw [backE_out hj] at q
          obtain ⟨a, xs, h1, h⟩ := Ib.own j es q
          rw [wipe_out hj] at h1
          exact ⟨a, xs, h1, h⟩
      · -- two slots that own one list are one
        have mix : ∀ {j l : Nat} {es fs : List Iv.D}, j ∈ own → l ∉ own → eget env1 j = .own es → eget envv l = .own fs → σ[j]? = some (some (.ref a)) → σ[l]? = some (some (.ref a)) → False := by
          intro j l es fs hj hl q1 q2 q3 q4
          obtain ⟨m1, m2⟩ := inown hj q1 q3
          obtain ⟨b, xs, h1, h2, h3, h4, h5⟩ := I1.own j es q1
          rw [q3] at h1; cases h1
          rcases s0.nO a (.inl ⟨l, fs, q2, by rw [wipe_out hl]; exact q4⟩) with z | z
          · exact z.elim m1 m2
          · rw [h4] at z; cases z
        by_cases hj : j ∈ own
        · rw [backE_in hlen hj] at q1
          by_cases hl : l ∈ own
          · rw [backE_in hlen hl] at q2
            exact I1.dis j l es fs a q1 q2 q3 q4
          · rw [backE_out hl] at q2
            exact (mix hj hl q1 q2 q3 q4).elim
        · rw [backE_out hj] at q1
          by_cases hl : l ∈ own
          · rw [backE_in hlen hl] at q2
            exact (mix hl hj q2 q1 q4 q3).elim
          · rw [backE_out hl] at q2
            exact Ib.dis j l es fs a q1 q2 (by rw [wipe_out hj]; exact q3) (by rw [wipe_out hl]; exact q4)
    have oend : ∀ a, OwnA (backE env1 envv own) σ a → OwnA env1 σ a ∨ OwnA envv (L2.wipe σ own) a := fun a ⟨j, es, q1, q2⟩ => by
      by_cases hj : j ∈ own
      · rw [backE_in hlen hj] at q1
        exact .inl ⟨j, es, q1, q2⟩
      · rw [backE_out hj] at q1
        exact .inr ⟨j, es, q1, by rw [wipe_out hj]; exact q2⟩
    refine kq (.ref D) (.new acc) _ _ _ _ ⟨?_, Iend, ⟨D, accV, rfl, nF, nS, fun z => ?_, hDl, R⟩, fun a z => ?_⟩ e2
    · have sA : Step g0 (OwnA env σ) H g1 (fun a => OwnA env1 σ a ∨ a = D) (upd H1 D (.lst [])) := st1.trans (step_alloc hD)
      have sB : Step g1 (fun a => OwnA env1 σ a ∨ a = D) (upd H1 D (.lst [])) gg (fun a => OwnA env1 σ a ∨ OwnA envv (L2.wipe σ own) a ∨ a = D) H' := by
        have sw := st.widen (P := fun a => OwnA env1 σ a ∨ a = D) fun a z => by
          rcases z with z | z
          · exact .inl (ow a z)
          · exact .inr z
        exact ⟨sw.F, sw.nF, sw.sc, sw.nsc, sw.sa, sw.keep, sw.tup, sw.frz, sw.there, fun a z => by
          rcases z with z | z
          · exact .inl (.inl z)
          · exact sw.nO a z⟩
      refine (sA.trans sB).shrink fun a z => ?_
      rcases z with z | ⟨_, z⟩
      · rcases oend a z with z | z
        · exact .inl z
        · exact .inr (.inl z)
      · cases z
        exact .inr (.inr rfl)
    · rcases oend D z with z | z
      · exact nO1 z
      · exact nO z
    · cases z.2
      exact hD0
end
end Iv
end

section
set_option Elab.async false
set_option linter.all false
set_option autoImplicit false
set_option maxRecDepth 100000
namespace Iv
open PySem PySem.Spec PyProof.Rows L2
section
variable {M : Nm} {T : Tab} {L : Nat}
theorem folded_of {pe : Expr} (h : notSet pe = true) (env : PySem.Env) : ∀ x, foldedSetIterable pe env x = pure x := fun x => by
  cases pe
  case Set => cases h
  all_goals rfl
theorem notSet_I {it : It} {sc : Scope} {tg pe : Expr} (h : chkI M sc it tg pe = true) : notSet pe = true := by
  cases it with
  | seq e =>
    have h : (chkE M sc e pe && notSet pe) = true := h
    rw [Bool.and_eq_true] at h
    exact h.2
  | _ =>
    cases pe
    case Set => cases h
    all_goals rfl
theorem sndLC {X : Cx} {own : List Nat} {elt : E} {tg : Tg} {it : It} {c : Option E} {pelt ptg piter : Expr} {pifs : List Expr} {scope : Scope} {p : Pos} {sc : Scope} {top : Bool} (C : CtxOk X M T sc top L)
    (hw : SndI X T it ptg piter) (hf : notSet piter = true) (hb : blkC M.N sc scope (own.map fun i => (M.N.getD i ("" : Str), i)) = true)
    (hg : ∀ b : Blk, SndG (blkC' X scope b) tg ptg) (hc : ∀ b : Blk, SndC (blkC' X scope b) T c pifs) (he : ∀ b : Blk, Snd (blkC' X scope b) T elt pelt) (ht : tgIn own tg = true) :
    Snd X T (.lc own elt tg it c) (.ListComp pelt [⟨ptg, piter, pifs, 0⟩] scope p) := by
  obtain ⟨wi, g, tt, te, pw, pg, pt, pe, q⟩ := snd_lc (T := T) C hw (folded_of hf X.env) hb hg hc he ht
  have hb' : BlkOk X.N X.env.scope scope (own.map fun i => (M.N.getD i ("" : Str), i)) := by
    rw [C.hN, C.hsc]
    exact blkOk_by hb
  refine ⟨_, pe_lc C.calm (by rw [C.hN]; exact C.nd) pw hb' (fun s H C' cl fp => pg (s, H, C', cl, fp)) (fun s H C' cl fp => pt (s, H, C', cl, fp)) (fun s H C' cl fp => pe (s, H, C', cl, fp)) (folded_of hf X.env), ?_⟩
  rw [own_pairs]
  exact q
theorem blk_kind {N : List Str} {sc scope : Scope} {own : List (Str × Nat)} (h : blkC N sc scope own = true) : scope.kind = .function := (blkOk_by h).kind
structure Ok3 (M : Nm) (T : Tab) (L : Nat) (e : E) : Prop where
  v : ∀ {X : Cx} {sc : Scope} {top : Bool} {pe : Expr}, CtxOk X M T sc top L → chkE M sc e pe = true → Snd X T e pe
  t : ∀ {X : Cx} {sc : Scope} {top : Bool} {pe : Expr}, CtxOk X M T sc top L → tstC e = true → chkE M sc e pe = true → SndT X T e pe
  w : ∀ {X : Cx} {sc : Scope} {top : Bool} {op : BoolOp} {vs : List Expr} {p : Pos}, CtxOk X M T sc top L → tstC e = true → chkE M sc e (.BoolOp op vs p) = true → SndW X T e (.BoolOp op vs p)
theorem ok3 {e : E} (hs : ∀ {X : Cx} {sc : Scope} {top : Bool} {pe : Expr}, CtxOk X M T sc top L → chkE M sc e pe = true → Snd X T e pe)
    (n1 : ∀ sc x y p, chkE M sc e (.UnaryOp x y p) = false) (n2 : ∀ sc x y p, chkE M sc e (.BoolOp x y p) = false) (n3 : ∀ sc x y z p, chkE M sc e (.IfExp x y z p) = false) (n4 : ∀ sc x y z p, chkE M sc e (.Compare x y z p) = false) : Ok3 M T L e where
  v := hs
  t := fun {X sc top pe} C _ h => by
    refine sndT_val (fun whole => ?_) (hs C h)
    cases pe
    case UnaryOp x y p => rw [n1] at h; cases h
    case BoolOp x y p => rw [n2] at h; cases h
    case IfExp x y z p => rw [n3] at h; cases h
    case Compare x y z p => rw [n4] at h; cases h
    all_goals rfl
  w := fun {X sc top op vs p} C _ h => by rw [n2] at h; cases h
theorem ok3w {e : E} (hs : ∀ {X : Cx} {sc : Scope} {top : Bool} {pe : Expr}, CtxOk X M T sc top L → chkE M sc e pe = true → Snd X T e pe)
    (ht : ∀ {X : Cx} {sc : Scope} {top : Bool} {pe : Expr}, CtxOk X M T sc top L → tstC e = true → chkE M sc e pe = true → SndT X T e pe) (n2 : ∀ sc x y p, chkE M sc e (.BoolOp x y p) = false) : Ok3 M T L e where
  v := hs
  t := ht
  w := fun {X sc top op vs p} C _ h => by rw [n2] at h; cases h
def OkA (M : Nm) (T : Tab) (L : Nat) (es : Es) : Prop := ∀ {X : Cx} {sc : Scope} {top : Bool} {l : List Expr}, CtxOk X M T sc top L → chkEs M sc es l = true → SndA X T es l
def OkO (M : Nm) (T : Tab) (L : Nat) (o : Option E) : Prop := (∀ {X : Cx} {sc : Scope} {top : Bool} {po : Option Expr}, CtxOk X M T sc top L → chkO M sc o po = true → SndO X T o po) ∧
  ∀ {X : Cx} {sc : Scope} {top : Bool} {pes : List Expr}, CtxOk X M T sc top L → chkC M sc o pes = true → SndC X T o pes
def OkI (M : Nm) (T : Tab) (L : Nat) (it : It) : Prop := ∀ {X : Cx} {sc : Scope} {top : Bool} {tg pe : Expr}, CtxOk X M T sc top L → chkI M sc it tg pe = true → SndI X T it tg pe
theorem ok_var {i : Nat}  : Ok3 M T L (.var i) := by
  refine ok3 (fun {X sc top pe} C h => ?_) (fun _ _ _ _ => rfl) (fun _ _ _ _ => rfl) (fun _ _ _ _ _ => rfl) (fun _ _ _ _ _ => rfl)
  rw [chkE_var] at h
  split at h
  · simp only [Bool.and_eq_true, decide_eq_true_eq] at h
    exact snd_var C h.1.1 h.1.2 h.2
  · cases h
theorem ok_int {z : Int}  : Ok3 M T L (.int z) := by
  refine ok3 (fun {X sc top pe} C h => ?_) (fun _ _ _ _ => rfl) (fun _ _ _ _ => rfl) (fun _ _ _ _ _ => rfl) (fun _ _ _ _ _ => rfl)
  rw [chkE_int] at h
  split at h
  · have := of_decide_eq_true h
    subst this
    exact snd_const pe_int (fun _ _ => .int _) fun _ _ _ => rfl
  · cases h
theorem ok_bl {b : Bool}  : Ok3 M T L (.bl b) := by
  refine ok3 (fun {X sc top pe} C h => ?_) (fun _ _ _ _ => rfl) (fun _ _ _ _ => rfl) (fun _ _ _ _ _ => rfl) (fun _ _ _ _ _ => rfl)
  rw [chkE_bl] at h
  split at h
  · have := of_decide_eq_true h
    subst this
    exact snd_const pe_bl (fun _ _ => .bl _) fun _ _ _ => rfl
  · cases h
theorem ok_non   : Ok3 M T L (.non) := by
  refine ok3 (fun {X sc top pe} C h => ?_) (fun _ _ _ _ => rfl) (fun _ _ _ _ => rfl) (fun _ _ _ _ _ => rfl) (fun _ _ _ _ _ => rfl)
  rw [chkE_non] at h
  split at h
  · exact snd_const pe_non (fun _ _ => .non) fun _ _ _ => rfl
  · cases h
theorem ok_str {x : Str}  : Ok3 M T L (.str x) := by
  refine ok3 (fun {X sc top pe} C h => ?_) (fun _ _ _ _ => rfl) (fun _ _ _ _ => rfl) (fun _ _ _ _ _ => rfl) (fun _ _ _ _ _ => rfl)
  rw [chkE_str] at h
  split at h
  · have := of_decide_eq_true h
    subst this
    exact snd_const pe_str (fun _ _ => .str _) fun _ _ _ => rfl
  · cases h
theorem ok_tup {es : Es} (hes : OkA M T L es) : Ok3 M T L (.tup es) := by
  refine ok3 (fun {X sc top pe} C h => ?_) (fun _ _ _ _ => rfl) (fun _ _ _ _ => rfl) (fun _ _ _ _ _ => rfl) (fun _ _ _ _ _ => rfl)
  rw [chkE_tup] at h
  split at h
  · exact snd_tup (hes C h)
  · cases h
theorem ok_lst {es : Es} (hes : OkA M T L es) : Ok3 M T L (.lst es) := by
  refine ok3 (fun {X sc top pe} C h => ?_) (fun _ _ _ _ => rfl) (fun _ _ _ _ => rfl) (fun _ _ _ _ _ => rfl) (fun _ _ _ _ _ => rfl)
  rw [chkE_lst] at h
  split at h
  · exact snd_lst (hes C h)
  · cases h
theorem ok_bin {op : Op} {a b : E} (ha : Ok3 M T L a) (hb : Ok3 M T L b) : Ok3 M T L (.bin op a b) := by
  refine ok3 (fun {X sc top pe} C h => ?_) (fun _ _ _ _ => rfl) (fun _ _ _ _ => rfl) (fun _ _ _ _ _ => rfl) (fun _ _ _ _ _ => rfl)
  rw [chkE_bin] at h
  split at h
  · simp only [Bool.and_eq_true] at h
    exact snd_bin h.1.1 (ha.v C h.1.2) (hb.v C h.2)
  · cases h
theorem ok_neg {a : E} (ha : Ok3 M T L a) : Ok3 M T L (.neg a) := by
  refine ok3w (fun {X sc top pe} C h => ?_) ?_ (fun _ _ _ _ => rfl)
  · rw [chkE_neg] at h
    split at h
    · exact snd_neg (ha.v C h)
    · cases h
  · exact fun {X sc top pe} C ht h => by
        rw [chkE_neg] at h
        split at h
        · exact sndT_val (fun _ => rfl) (snd_neg (ha.v C h))
        · cases h
theorem ok_not {a : E} (ha : Ok3 M T L a) : Ok3 M T L (.not a) := by
  refine ok3w (fun {X sc top pe} C h => ?_) ?_ (fun _ _ _ _ => rfl)
  · rw [chkE_not] at h
    split at h
    · exact snd_not (ha.v C h)
    · cases h
  · exact fun {X sc top pe} C ht h => by
        rw [chkE_not] at h
        split at h
        · exact sndT_not (ha.t C ht h)
        · cases h
theorem ok_cmp {op : COp} {a b : E} (ha : Ok3 M T L a) (hb : Ok3 M T L b) : Ok3 M T L (.cmp op a b) := by
  refine ok3w (fun {X sc top pe} C h => ?_) ?_ (fun _ _ _ _ => rfl)
  · rw [chkE_cmp] at h
    split at h
    · simp only [Bool.and_eq_true] at h
      exact snd_cmp C.units h.1.1.1 h.2 (ha.v C h.1.1.2) (hb.v C h.1.2)
    · cases h
  · exact fun {X sc top pe} C ht h => by
        rw [chkE_cmp] at h
        split at h
        · simp only [Bool.and_eq_true] at h
          exact sndT_cmp C.units h.1.1.1 h.2 (ha.v C h.1.1.2) (hb.v C h.1.2)
        · cases h
theorem ok_chain {op op' : COp} {a b c : E} (ha : Ok3 M T L a) (hb : Ok3 M T L b) (hc : Ok3 M T L c) : Ok3 M T L (.chain op op' a b c) := by
  refine ok3w (fun {X sc top pe} C h => ?_) ?_ (fun _ _ _ _ => rfl)
  · rw [chkE_chain] at h
    split at h
    · simp only [Bool.and_eq_true] at h
      obtain ⟨⟨⟨⟨⟨⟨h1, h2⟩, h3⟩, h4⟩, h5⟩, h6⟩, h7⟩ := h
      exact snd_chain C.units h1 h2 h7 (ha.v C h3) (hb.v C h4) (hc.v C h5)
    · cases h
  · exact fun {X sc top pe} C ht h => by
        rw [chkE_chain] at h
        split at h
        · simp only [Bool.and_eq_true] at h
          obtain ⟨⟨⟨⟨⟨⟨h1, h2⟩, h3⟩, h4⟩, h5⟩, h6⟩, h7⟩ := h
          exact sndT_chain C.units h1 h2 h7 (ha.v C h3) (hb.v C h4) (hc.v C h5)
        · cases h
theorem w_and {a b : E} (ha : Ok3 M T L a) (hb : Ok3 M T L b) {X : Cx} {sc : Scope} {top : Bool} {op : BoolOp} {vs : List Expr} {p : Pos} (C : CtxOk X M T sc top L) (ht : tstC (.and a b) = true) (h : chkE M sc (.and a b) (.BoolOp op vs p) = true) : SndW X T (.and a b) (.BoolOp op vs p) := by
  have ht : (tstC a && tstC b) = true := ht
  rw [Bool.and_eq_true] at ht
  rw [chkE_and] at h
  split at h
  · rename_i x y r pos q
    cases q
    rw [Bool.and_eq_true] at h
    obtain ⟨h1, h2⟩ := h
    split at h2
    · exact sndW_and (ha.t C ht.1 h1) (sndW_and1 (hb.t C ht.2 h2))
    · exact sndW_and (ha.t C ht.1 h1) (hb.w C ht.2 h2)
  · cases h
theorem ok_and {a b : E} (ha : Ok3 M T L a) (hb : Ok3 M T L b) : Ok3 M T L (.and a b) where
  v := fun {X sc top pe} C h => by
      rw [chkE_and] at h
      split at h
      · rw [Bool.and_eq_true] at h
        obtain ⟨h1, h2⟩ := h
        split at h2
        · exact snd_and (ha.v C h1) (snd_one (hb.v C h2))
        · exact snd_and (ha.v C h1) (hb.v C h2)
      · cases h
  t := fun {X sc top pe} C ht h => by
    cases pe
    case BoolOp op vs p => exact (w_and ha hb C ht h).pt
    all_goals exact absurd h Bool.false_ne_true
  w := fun {X sc top op vs p} C ht h => w_and ha hb C ht h
theorem w_or {a b : E} (ha : Ok3 M T L a) (hb : Ok3 M T L b) {X : Cx} {sc : Scope} {top : Bool} {op : BoolOp} {vs : List Expr} {p : Pos} (C : CtxOk X M T sc top L) (ht : tstC (.or a b) = true) (h : chkE M sc (.or a b) (.BoolOp op vs p) = true) : SndW X T (.or a b) (.BoolOp op vs p) := by
  have ht : (tstC a && tstC b) = true := ht
  rw [Bool.and_eq_true] at ht
  rw [chkE_or] at h
  split at h
  · rename_i x y r pos q
    cases q
    rw [Bool.and_eq_true] at h
    obtain ⟨h1, h2⟩ := h
    split at h2
    · exact sndW_or (ha.t C ht.1 h1) (sndW_or1 (hb.t C ht.2 h2))
    · exact sndW_or (ha.t C ht.1 h1) (hb.w C ht.2 h2)
  · cases h
theorem ok_or {a b : E} (ha : Ok3 M T L a) (hb : Ok3 M T L b) : Ok3 M T L (.or a b) where
  v := fun {X sc top pe} C h => by
      rw [chkE_or] at h
      split at h
      · rw [Bool.and_eq_true] at h
        obtain ⟨h1, h2⟩ := h
        split at h2
        · exact snd_or (ha.v C h1) (snd_one (hb.v C h2))
        · exact snd_or (ha.v C h1) (hb.v C h2)
      · cases h
  t := fun {X sc top pe} C ht h => by
    cases pe
    case BoolOp op vs p => exact (w_or ha hb C ht h).pt
    all_goals exact absurd h Bool.false_ne_true
  w := fun {X sc top op vs p} C ht h => w_or ha hb C ht h
theorem ok_ite {c a b : E} (hc : Ok3 M T L c) (ha : Ok3 M T L a) (hb : Ok3 M T L b) : Ok3 M T L (.ite c a b) := by
  refine ok3w (fun {X sc top pe} C h => ?_) ?_ (fun _ _ _ _ => rfl)
  · rw [chkE_ite] at h
    split at h
    · simp only [Bool.and_eq_true] at h
      exact snd_ite (hc.t C h.1.1.1 h.1.1.2) (ha.v C h.1.2) (hb.v C h.2)
    · cases h
  · exact fun {X sc top pe} C ht h => nomatch ht
theorem ok_idx {a i : E} (ha : Ok3 M T L a) (hi : Ok3 M T L i) : Ok3 M T L (.idx a i) := by
  refine ok3 (fun {X sc top pe} C h => ?_) (fun _ _ _ _ => rfl) (fun _ _ _ _ => rfl) (fun _ _ _ _ _ => rfl) (fun _ _ _ _ _ => rfl)
  rw [chkE_idx] at h
  split at h
  · rw [Bool.and_eq_true] at h
    exact snd_idx (plainIx_of h.2) (ha.v C h.1) (hi.v C h.2)
  · cases h
theorem ok_slc {a : E} {lo hi : Option E} (ha : Ok3 M T L a) (hlo : OkO M T L lo) (hhi : OkO M T L hi) : Ok3 M T L (.slc a lo hi) := by
  refine ok3 (fun {X sc top pe} C h => ?_) (fun _ _ _ _ => rfl) (fun _ _ _ _ => rfl) (fun _ _ _ _ _ => rfl) (fun _ _ _ _ _ => rfl)
  rw [chkE_slc] at h
  split at h
  · simp only [Bool.and_eq_true] at h
    exact snd_slc (ha.v C h.1.1) (hlo.1 C h.1.2) (hhi.1 C h.2)
  · cases h
theorem ok_rev {a : E} (ha : Ok3 M T L a) : Ok3 M T L (.rev a) := by
  refine ok3 (fun {X sc top pe} C h => ?_) (fun _ _ _ _ => rfl) (fun _ _ _ _ => rfl) (fun _ _ _ _ _ => rfl) (fun _ _ _ _ _ => rfl)
  rw [chkE_rev] at h
  split at h
  · simp only [Bool.and_eq_true, decide_eq_true_eq] at h
    obtain ⟨h1, h2⟩ := h
    subst h1
    exact snd_rev (ha.v C h2)
  · cases h
theorem ok_call {f : Nat} {es : Es} (hes : OkA M T L es) : Ok3 M T L (.call f es) := by
  refine ok3 (fun {X sc top pe} C h => ?_) (fun _ _ _ _ => rfl) (fun _ _ _ _ => rfl) (fun _ _ _ _ _ => rfl) (fun _ _ _ _ _ => rfl)
  rw [chkE_call] at h
  split at h
  · simp only [Bool.and_eq_true, decide_eq_true_eq] at h
    exact snd_call C h.1.1 h.1.2 h.2 (hes C h.2)
  · cases h
def OkD (M : Nm) (T : Tab) (L : Nat) (es : Es) : Prop := ∀ {X : Cx} {sc : Scope} {top : Bool} {fl : List Bool} {l : List Expr}, CtxOk X M T sc top L → chkDs M sc es fl l = true → SndD X T es fl l
theorem okD_nil : OkD M T L .nil := fun {X sc top fl l} C h => by
  have h : (fl.isEmpty && l.isEmpty) = true := h
  rw [Bool.and_eq_true, List.isEmpty_iff, List.isEmpty_iff] at h
  obtain ⟨rfl, rfl⟩ := h
  exact sndD_nil
theorem okD_cons {e : E} {r : Es} (he : Ok3 M T L e) (hs : ∀ a, e = .bi1 .list a → Ok3 M T L a) (hr : OkD M T L r) : OkD M T L (.cons e r) := fun {X sc top fl l} C h => by
  cases fl with
  | nil => cases h
  | cons f g =>
    cases l with
    | nil => cases f <;> cases h
    | cons x q =>
      cases f with
      | false =>
        have h : (chkE M sc e x && chkDs M sc r g q) = true := h
        rw [Bool.and_eq_true] at h
        exact sndD_one h.1 (he.v C h.1) (hr C h.2)
      | true =>
        cases x
        case Starred y p =>
          have h : (chkSt M sc e y && chkDs M sc r g q) = true := h
          rw [Bool.and_eq_true] at h
          obtain ⟨h1, h2⟩ := h
          cases e
          case bi1 b a =>
            have h1 : (decide (b = .list) && chkE M sc a y) = true := h1
            rw [Bool.and_eq_true, decide_eq_true_eq] at h1
            obtain ⟨rfl, h3⟩ := h1
            exact sndD_star ((hs a rfl).v C h3) (hr C h2)
          all_goals cases h1
        all_goals cases h
theorem ok_bi1 {b : Bi} {a : E} (ha : Ok3 M T L a) (hd : ∀ es, a = .lst es → OkD M T L es) : Ok3 M T L (.bi1 b a) := by
  refine ok3 (fun {X sc top pe} C h => ?_) (fun _ _ _ _ => rfl) (fun _ _ _ _ => rfl) (fun _ _ _ _ _ => rfl) (fun _ _ _ _ _ => rfl)
  rw [chkE_bi1] at h
  split at h
  · simp only [Bool.and_eq_true, decide_eq_true_eq] at h
    exact snd_bi1 C h.1.1.1 h.1.1.2 h.1.2 h.2 (ha.v C h.1.2)
  · simp only [Bool.and_eq_true, decide_eq_true_eq] at h
    exact snd_isi C h.1.1.1.1.1 h.1.1.1.1.2 h.1.1.1.2 h.1.1.2 h.1.2 h.2 (ha.v C h.1.1.1.2)
  · rw [Bool.and_eq_true] at h
    obtain ⟨h1, h2⟩ := h
    cases b <;> try exact absurd h1 Bool.false_ne_true
    rename_i fl
    cases a
    case lst es => exact snd_flatL (hd es rfl C h2)
    all_goals cases h2
  · rw [Bool.and_eq_true] at h
    obtain ⟨h1, h2⟩ := h
    cases b <;> try exact absurd h1 Bool.false_ne_true
    rename_i fl
    cases a
    case lst es => exact snd_flatT (hd es rfl C h2)
    all_goals cases h2
  · cases h
theorem ok_bi2 {b : Bj} {a c : E} (ha : Ok3 M T L a) (hc : Ok3 M T L c) : Ok3 M T L (.bi2 b a c) := by
  refine ok3 (fun {X sc top pe} C h => ?_) (fun _ _ _ _ => rfl) (fun _ _ _ _ => rfl) (fun _ _ _ _ _ => rfl) (fun _ _ _ _ _ => rfl)
  rw [chkE_bi2] at h
  split at h
  · simp only [Bool.and_eq_true, decide_eq_true_eq] at h
    exact snd_bi2 C h.1.1.1 h.1.1.2 h.1.2 h.2 (ha.v C h.1.2) (hc.v C h.2)
  · cases h
theorem ok_sget {a : E} {f : Fld} (ha : Ok3 M T L a) : Ok3 M T L (.sget a f) := by
  refine ok3 (fun {X sc top pe} C h => ?_) (fun _ _ _ _ => rfl) (fun _ _ _ _ => rfl) (fun _ _ _ _ _ => rfl) (fun _ _ _ _ _ => rfl)
  rw [chkE_sget] at h
  split at h
  · simp only [Bool.and_eq_true, decide_eq_true_eq] at h
    obtain ⟨h1, h2⟩ := h
    subst h1
    exact snd_sget C (ha.v C h2)
  · cases h
theorem ok_spop {a : E} (ha : Ok3 M T L a) : Ok3 M T L (.spop a) := by
  refine ok3 (fun {X sc top pe} C h => ?_) (fun _ _ _ _ => rfl) (fun _ _ _ _ => rfl) (fun _ _ _ _ _ => rfl) (fun _ _ _ _ _ => rfl)
  rw [chkE_spop] at h
  split at h
  · simp only [Bool.and_eq_true, decide_eq_true_eq] at h
    obtain ⟨⟨⟨h1, h2⟩, h3⟩, h4⟩ := h
    subst h1
    exact snd_spop h2 h3 (ha.v C h4)
  · cases h
theorem ok_mks {a b c d : E} (ha : Ok3 M T L a) (hb : Ok3 M T L b) (hc : Ok3 M T L c) (hd : Ok3 M T L d) : Ok3 M T L (.mks a b c d) := by
  refine ok3 (fun {X sc top pe} C h => ?_) (fun _ _ _ _ => rfl) (fun _ _ _ _ => rfl) (fun _ _ _ _ _ => rfl) (fun _ _ _ _ _ => rfl)
  rw [chkE_mks] at h
  split at h
  · simp only [Bool.and_eq_true] at h
    obtain ⟨⟨⟨⟨⟨⟨⟨h1, h2⟩, h3⟩, h4⟩, h5⟩, h6⟩, h7⟩, h8⟩ := h
    obtain ⟨_, _, rfl⟩ := isStr_eq h1
    obtain ⟨_, _, rfl⟩ := isStr_eq h2
    obtain ⟨_, _, rfl⟩ := isStr_eq h3
    obtain ⟨_, _, rfl⟩ := isStr_eq h4
    exact snd_mks (ha.v C h5) (hb.v C h6) (hc.v C h7) (hd.v C h8)
  · cases h
theorem ok_lc {own : List Nat} {elt : E} {tg : Tg} {it : It} {c : Option E} (helt : Ok3 M T L elt) (hit : OkI M T L it) (hc : OkO M T L c) : Ok3 M T L (.lc own elt tg it c) := by
  refine ok3 (fun {X sc top pe} C h => ?_) (fun _ _ _ _ => rfl) (fun _ _ _ _ => rfl) (fun _ _ _ _ _ => rfl) (fun _ _ _ _ _ => rfl)
  rw [chkE_lc] at h
  split at h
  · simp only [Bool.and_eq_true, decide_eq_true_eq] at h
    obtain ⟨⟨⟨⟨⟨⟨h1, h2⟩, h3⟩, h4⟩, h5⟩, h6⟩, h7⟩ := h
    subst h1
    have hk := blk_kind h3
    exact sndLC C (hit C h2) (notSet_I h2) h3 (fun b => sndG tg (C.blk hk b) h4) (fun b => hc.2 (C.blk hk b) h5) (fun b => helt.v (C.blk hk b) h6) h7
  · cases h
theorem ok_nil : OkA M T L .nil := fun {X sc top l} C h => by
  cases l with
  | nil => exact sndA_nil
  | cons _ _ => cases h
theorem ok_cons {e : E} {r : Es} (he : Ok3 M T L e) (hr : OkA M T L r) : OkA M T L (.cons e r) := fun {X sc top l} C h => by
  cases l with
  | nil => cases h
  | cons x q =>
    have h : (chkE M sc e x && chkEs M sc r q) = true := h
    rw [Bool.and_eq_true] at h
    exact sndA_cons h.1 (he.v C h.1) (hr C h.2)
theorem ok_none : OkO M T L none := by
  refine ⟨fun {X sc top po} C h => ?_, fun {X sc top pes} C h => ?_⟩
  ·
    cases po with
    | none => exact sndO_none
    | some _ => cases h
  ·
    cases pes with
    | nil => exact sndC_none
    | cons _ _ => cases h
theorem ok_some {e : E} (he : Ok3 M T L e) : OkO M T L (some e) := by
  refine ⟨fun {X sc top po} C h => ?_, fun {X sc top pes} C h => ?_⟩
  ·
    cases po with
    | none => cases h
    | some x => exact sndO_some (he.v C h)
  ·
    cases pes with
    | nil => cases h
    | cons x q =>
      cases q with
      | nil =>
        have h : (tstC e && chkE M sc e x) = true := h
        rw [Bool.and_eq_true] at h
        exact sndC_some (he.t C h.1 h.2)
      | cons _ _ => cases h
theorem ok_seq {e : E} (he : Ok3 M T L e) : OkI M T L (.seq e) := fun {X sc top tg pe} C h => by
  have h : (chkE M sc e pe && notSet pe) = true := h
  rw [Bool.and_eq_true] at h
  exact sndI_seq (he.v C h.1)
theorem ok_rg1 {e : E} (he : Ok3 M T L e) : OkI M T L (.rg1 e) := fun {X sc top tg pe} C h => by
  rw [chkI_rg1] at h
  split at h
  · simp only [Bool.and_eq_true, decide_eq_true_eq] at h
    exact sndI_rg1 C h.1.1 h.1.2 h.2 (he.v C h.2)
  · cases h
theorem ok_rg2 {a b : E} (ha : Ok3 M T L a) (hb : Ok3 M T L b) : OkI M T L (.rg2 a b) := fun {X sc top tg pe} C h => by
  rw [chkI_rg2] at h
  split at h
  · simp only [Bool.and_eq_true, decide_eq_true_eq] at h
    exact sndI_rg2 C h.1.1.1 h.1.1.2 h.1.2 h.2 (ha.v C h.1.2) (hb.v C h.2)
  · cases h
theorem ok_enu {e : E} (he : Ok3 M T L e) : OkI M T L (.enu e) := fun {X sc top tg pe} C h => by
  rw [chkI_enu] at h
  split at h
  · simp only [Bool.and_eq_true, decide_eq_true_eq] at h
    obtain ⟨⟨⟨h1, h2⟩, h3⟩, h4⟩ := h
    cases tg
    case Tuple => exact sndI_enu C h1 h2 h3 (he.v C h3)
    all_goals cases h4
  · cases h
mutual
theorem allE : ∀ e : E, Ok3 M T L e
  | .var i => ok_var 
  | .int z => ok_int 
  | .bl b => ok_bl 
  | .non  => ok_non 
  | .str x => ok_str 
  | .tup es => ok_tup (allEs es)
  | .lst es => ok_lst (allEs es)
  | .bin op a b => ok_bin (allE a) (allE b)
  | .neg a => ok_neg (allE a)
  | .not a => ok_not (allE a)
  | .cmp op a b => ok_cmp (allE a) (allE b)
  | .chain op op' a b c => ok_chain (allE a) (allE b) (allE c)
  | .and a b => ok_and (allE a) (allE b)
  | .or a b => ok_or (allE a) (allE b)
  | .ite c a b => ok_ite (allE c) (allE a) (allE b)
  | .idx a i => ok_idx (allE a) (allE i)
  | .slc a lo hi => ok_slc (allE a) (allO lo) (allO hi)
  | .rev a => ok_rev (allE a)
  | .call f es => ok_call (allEs es)
  | .bi1 b a => ok_bi1 (allE a) (allLs a)
  | .bi2 b a c => ok_bi2 (allE a) (allE c)
  | .sget a f => ok_sget (allE a)
  | .spop a => ok_spop (allE a)
  | .mks a b c d => ok_mks (allE a) (allE b) (allE c) (allE d)
  | .lc own elt tg it c => ok_lc (allE elt) (allI it) (allO c)
theorem allLs : ∀ (a : E) (es : Es), a = .lst es → OkD M T L es
  | .lst es, _, rfl => allDs es
theorem allSt : ∀ (e a : E), e = .bi1 .list a → Ok3 M T L a
  | .bi1 _ a, _, rfl => allE a
theorem allDs : ∀ es : Es, OkD M T L es
  | .nil => okD_nil
  | .cons e r => okD_cons (allE e) (allSt e) (allDs r)
theorem allEs : ∀ es : Es, OkA M T L es
  | .nil => ok_nil
  | .cons e r => ok_cons (allE e) (allEs r)
theorem allO : ∀ o : Option E, OkO M T L o
  | none => ok_none
  | some e => ok_some (allE e)
theorem allI : ∀ it : It, OkI M T L it
  | .seq e => ok_seq (allE e)
  | .rg1 e => ok_rg1 (allE e)
  | .rg2 a b => ok_rg2 (allE a) (allE b)
  | .enu e => ok_enu (allE e)
end
end
end Iv
end

section
set_option Elab.async false
set_option linter.all false
set_option autoImplicit false
set_option maxRecDepth 100000
namespace Iv
open PySem PySem.Spec PyProof.Rows L2

/-! ### statements: does the IR tell the text -/
def notComp : Expr → Bool
  | .ListComp .. => false | .SetComp .. => false | .DictComp .. => false
  | _ => true
def notTup : Expr → Bool
  | .Tuple .. => false
  | _ => true
def isStar : Expr → Bool
  | .Starred .. => true
  | _ => false
def swName (sc : Scope) (line : Nat) : Expr → Option Str
  | .Name id pos => if sc.names.lookup id == some .local && pos.line == line then some id else none
  | _ => none
/-- what the two-sided store does: none: not told -/
def swRes (sc : Scope) (ts vs : List Expr) : Option (Option (List Str)) :=
  if (!(ts.length == 2 || ts.length == 3) || vs.length != ts.length) = true then some none else
  if vs.any isStar = true then some none else
  let names := ts.filterMap (swName sc ((ts.head?.map (·.pos.line)).getD 0))
  if (names.length != ts.length || names.eraseDups.length != names.length) = true then some none else
  if vs.all (foldedForSure 8) = true then some none else
  if vs.all (constantsAlone 8) = true then none else some (some names)
theorem swRes_ok {env : PySem.Env} {sc : Scope} (h1 : env.scope = sc) (hk : sc.kind = .function) {ts vs : List Expr} {k k2 : Nat} {p p2 : Pos} {o : Option (List Str)} (h : swRes sc ts vs = some o) :
    swappedStores [.Tuple ts k p] (.Tuple vs k2 p2) env = pure o := by
  subst h1
  have hb : (env.blockKind != .function) = false := by
    unfold Env.blockKind
    rw [hk]; rfl
  unfold swRes at h
  unfold swappedStores
  simp only [hb, Bool.or_false]
  show (if (!(ts.length == 2 || ts.length == 3) || vs.length != ts.length) = true then (pure none : Sem (Option (List Str))) else
    if vs.any isStar = true then pure none else
    if ((ts.filterMap (swName env.scope ((ts.head?.map (·.pos.line)).getD 0))).length != ts.length || (ts.filterMap (swName env.scope ((ts.head?.map (·.pos.line)).getD 0))).eraseDups.length != (ts.filterMap (swName env.scope ((ts.head?.map (·.pos.line)).getD 0))).length) = true then pure none else
    if vs.all (foldedForSure 8) = true then pure none else
    if vs.all (constantsAlone 8) = true then _ else pure (some (ts.filterMap (swName env.scope ((ts.head?.map (·.pos.line)).getD 0))))) = pure o
  dsimp only at h
  split at h
  · rename_i q
    rw [if_pos q]; cases h; rfl
  · rename_i q
    rw [if_neg q]
    split at h
    · rename_i q
      rw [if_pos q]; cases h; rfl
    · rename_i q
      rw [if_neg q]
      split at h
      · rename_i q
        rw [if_pos q]; cases h; rfl
      · rename_i q
        rw [if_neg q]
        split at h
        · rename_i q
          rw [if_pos q]; cases h; rfl
        · rename_i q
          rw [if_neg q]
          split at h
          · cases h
          · rename_i q
            rw [if_neg q]; cases h; rfl
def isNm : Tg → Bool
  | .nm _ => true
  | _ => false
/-- e is dropped, or stored in one name -/
def chkAsg (M : Nm) (sc : Scope) (j : Nat) (e : E) (x : Str) (px : Pos) (v : Expr) : Bool :=
  decide (M.N[j]? = some x) && locC true sc x && (notComp v || match v with
    | .ListComp _ _ scope p => (decide (sc.names.lookup x = some .local) && (px.line == p.line) && !(scope.names.any fun (n, k) => n == x && (k == .local || k == .cell)))
        || !(decide (sc.names.lookup x = some .local) && (px.line == p.line) && !(scope.names.any fun (n, k) => n == x && (k == .local || k == .cell)))
    | _ => false)
/-- two or three different local names -/
def parNms (N : List Str) (sc : Scope) (ts : List Tg) (pts : List Expr) (ns : List Str) : Bool := match ts, pts, ns with
  | [.nm i, .nm j], [.Name x _, .Name y _], [x', y'] => decide (x' = x) && decide (y' = y) && decide (i ≠ j) && decide (sc.names.lookup x = some .local) && decide (sc.names.lookup y = some .local)
  | [.nm i, .nm j, .nm l], [.Name x _, .Name y _, .Name z _], [x', y', z'] => decide (x' = x) && decide (y' = y) && decide (z' = z) && decide (i ≠ j) && decide (i ≠ l) && decide (j ≠ l) && decide (sc.names.lookup x = some .local) && decide (sc.names.lookup y = some .local) && decide (sc.names.lookup z = some .local)
  | _, _, _ => false
mutual
def chkS (M : Nm) (sc : Scope) : Sm → Stmt → Bool
  | .asg tg e, ps => match ps with
    | .Assign [t] v _ => chkE M sc e v && (match tg with
      | .nm j => match t with
        | .Name x px => chkAsg M sc j e x px v
        | _ => false
      | .tup ts => chkTg M.N true sc (.tup ts) t && notTup v)
    | _ => false
  | .par ts es, ps => match ps with
    | .Assign [.Tuple pts _ _] (.Tuple pvs _ _) _ => chkEs M sc es pvs && chkTgs M.N true sc ts pts && decide (pts.length ≤ 1000) && (match swRes sc pts pvs with
      | some none => true
      | some (some ns) => parNms M.N sc ts pts ns
      | none => false)
    | _ => false
  | .app i e, ps => match ps with
    | .Expr (.Call (.Attribute (.Name x _) m ap) [y] [] cp) _ => decide (m = ("append" : Str)) && decide (M.N[i]? = some x) && visC sc x && nmOk x && (ap.endLine == cp.line) && chkE M sc e y
    | _ => false
  | .sset a f e, ps => match ps with
    | .Assign [.Subscript o (.Constant (.str y) _ _) _] v _ => decide (y = f.name) && notComp v && chkE M sc a o && chkE M sc e v
    | _ => false
  | .drop e, ps => match ps with
    | .Expr v _ => notComp v && chkE M sc e v
    | _ => false
  | .ret e, ps => match ps with
    | .Return (some v) _ => chkE M sc e v
    | _ => false
  | .retn, ps => match ps with
    | .Return none _ => true
    | _ => false
  | .cond c a b, ps => match ps with
    | .If t x y _ => tstC c && chkE M sc c t && chkSs M sc a x && chkSs M sc b y
    | _ => false
  | .whl _ c b, ps => match ps with
    | .While t x [] _ => tstC c && chkE M sc c t && chkSs M sc b x
    | _ => false
  | .for tg it b, ps => match ps with
    | .For t i x [] _ => chkI M sc it t i && chkTg M.N true sc tg t && chkSs M sc b x
    | _ => false
  | .pass, ps => match ps with
    | .Pass _ => true
    | _ => false
  | .brk, ps => match ps with
    | .Break _ => true
    | _ => false
  | .cont, ps => match ps with
    | .Continue _ => true
    | _ => false
  | .never, _ => true
def chkSs (M : Nm) (sc : Scope) : List Sm → List Stmt → Bool
  | [], l => l.isEmpty
  | s :: r, l => match l with
    | x :: q => chkS M sc s x && chkSs M sc r q
    | [] => false
end

/-! ### what is shown of a statement -/
structure EndsOk (K : PySem.W.Frag) (g : Gh) (O : Addr → Prop) (H : Hp) (Kt : Kont) (r : RV × Sta) (D : Ends) : Prop where
  nx : ∀ g' env' S' σ' H', Step g O H g' (OwnA env' σ') H' → IOk K g' env' S' σ' H' → Kt.nx env' S' = some r → D.nx σ' H'
  bk : ∀ g' env' S' σ' H', Step g O H g' (OwnA env' σ') H' → IOk K g' env' S' σ' H' → Kt.bk env' S' = some r → D.bk σ' H'
  ct : ∀ g' env' S' σ' H', Step g O H g' (OwnA env' σ') H' → IOk K g' env' S' σ' H' → Kt.ct env' S' = some r → D.ct σ' H'
  rt : ∀ v rv g' S' H', Step g O H g' (NewA v rv) H' → GhOk K g' S' H' → RVO K g' H' v rv → Kt.rt rv S' = some r → D.rt v H'
theorem EndsOk.step {K : PySem.W.Frag} {g g1 : Gh} {O O1 : Addr → Prop} {H H1 : Hp} {Kt : Kont} {r : RV × Sta} {D : Ends} (E : EndsOk K g O H Kt r D) (s : Step g O H g1 O1 H1) : EndsOk K g1 O1 H1 Kt r D :=
  ⟨fun g' env' S' σ' H' t => E.nx g' env' S' σ' H' (s.trans t), fun g' env' S' σ' H' t => E.bk g' env' S' σ' H' (s.trans t), fun g' env' S' σ' H' t => E.ct g' env' S' σ' H' (s.trans t), fun v rv g' S' H' t => E.rt v rv g' S' H' (s.trans t)⟩
def SndS (X : Cx) (T : Tab) (s : Sm) (ps : Stmt) : Prop := ∃ t : TS, PS X ps t ∧ ∀ (g : Gh) (env : Env) (S : Sta) (σ : L2.St) (H : Hp) (Kt : Kont) (r : RV × Sta) (D : Ends), IOk X.K g env S σ H → ex T s env S Kt = some r → EndsOk X.K g (OwnA env σ) H Kt r D → t D σ H
def SndSs (X : Cx) (T : Tab) (s : List Sm) (ps : List Stmt) : Prop := ∃ t : TS, PSs X ps t ∧ ∀ (g : Gh) (env : Env) (S : Sta) (σ : L2.St) (H : Hp) (Kt : Kont) (r : RV × Sta) (D : Ends), IOk X.K g env S σ H → exs T s env S Kt = some r → EndsOk X.K g (OwnA env σ) H Kt r D → t D σ H
section
variable {X : Cx} {M : Nm} {T : Tab} {sc : Scope} {L : Nat}
theorem sndSs_nil : SndSs X T [] [] := ⟨_, pss_nil, fun g env S σ H Kt r D I e E => E.nx _ _ _ _ _ .refl I e⟩
theorem sndSs_cons {s : Sm} {ss : List Sm} {p : Stmt} {ps : List Stmt} (A : SndS X T s p) (B : SndSs X T ss ps) : SndSs X T (s :: ss) (p :: ps) := by
  obtain ⟨ta, pa, fa⟩ := A
  obtain ⟨tb, pb, fb⟩ := B
  refine ⟨_, pss_cons pa pb, fun g env S σ H Kt r D I e E => ?_⟩
  have e : ex T s env S { Kt with nx := fun env S => exs T ss env S Kt } = some r := e
  exact fa _ _ _ _ _ _ _ _ I e ⟨fun g1 env1 S1 σ1 H1 st I1 e1 => fb _ _ _ _ _ _ _ _ I1 e1 (E.step st), E.bk, E.ct, E.rt⟩
theorem sndS_pass {p : Pos} : SndS X T .pass (.Pass p) := ⟨_, ps_pass, fun g env S σ H Kt r D I e E => E.nx _ _ _ _ _ .refl I e⟩
theorem sndS_brk {p : Pos} : SndS X T .brk (.Break p) := ⟨_, ps_break, fun g env S σ H Kt r D I e E => E.bk _ _ _ _ _ .refl I e⟩
theorem sndS_cont {p : Pos} : SndS X T .cont (.Continue p) := ⟨_, ps_continue, fun g env S σ H Kt r D I e E => E.ct _ _ _ _ _ .refl I e⟩
theorem sndS_never {s : Stmt} : SndS X T .never s := ⟨_, ps_never, fun g env S σ H Kt r D I e E => by cases e⟩
theorem sndS_retn {p : Pos} : SndS X T .retn (.Return none p) := ⟨_, ps_retN, fun g env S σ H Kt r D I e E => E.rt .non (.val .non) g S H (Step.refl.shrink fun a z => absurd z newA_val) I.gh .non e⟩
theorem sndS_ret {e : E} {x : Expr} {p : Pos} (A : Snd X T e x) : SndS X T (.ret e) (.Return (some x) p) := by
  obtain ⟨ta, pa, fa⟩ := A
  refine ⟨_, ps_ret pa, fun g env S σ H Kt r D I e E => ?_⟩
  rw [ex_ret] at e
  refine fa _ _ _ _ _ _ _ _ I e fun v ra g1 env1 S1 H1 A1 e1 => ?_
  split at e1
  · rename_i rv q
    cases ra with
    | val d =>
      cases q
      exact E.rt v _ g1 S1 H1 (A1.st.shrink fun a z => .inr z) A1.ok.gh A1.rv e1
    | new ds =>
      cases q
      obtain ⟨a, xs, h0, h1, h2, h3, h4, h5⟩ := A1.rv
      exact E.rt v _ g1 S1 H1 (A1.st.shrink fun a z => .inr z) A1.ok.gh ⟨a, xs, h0, h1, h2, h4, h5⟩ e1
    | bor i =>
      have h : σ[i]? = some (some v) := A1.rv
      unfold outRV at q
      simp only at q
      split at q
      · rename_i ds qo
        cases q
        obtain ⟨a, xs, h0, h1, h2, h3, h4⟩ := A1.ok.own i ds qo
        rw [h] at h0; cases h0
        exact E.rt _ (.new ds) g1 S1 H1 (A1.st.shrink fun b z => .inl ⟨i, ds, qo, by rw [h, z.2]⟩) A1.ok.gh ⟨a, xs, rfl, h1, h2, h3, h4⟩ e1
      · rename_i d qo
        cases q
        obtain ⟨w, h0, h1⟩ := A1.ok.val i d qo
        rw [h] at h0; cases h0
        exact E.rt _ (.val d) g1 S1 H1 (A1.st.shrink fun b z => absurd z newA_val) A1.ok.gh h1 e1
      · cases q
  · cases e1
theorem sndS_drop {e : E} {x : Expr} {p : Pos} (hn : notComp x = true) (A : Snd X T e x) : SndS X T (.drop e) (.Expr x p) := by
  obtain ⟨ta, pa, fa⟩ := A
  refine ⟨_, ps_expr pa (by cases x <;> first | rfl | cases hn), fun g env S σ H Kt r D I e E => ?_⟩
  rw [ex_drop] at e
  exact fa _ _ _ _ _ _ _ _ I e fun v ra g1 env1 S1 H1 A1 e1 => E.nx _ _ _ _ _ A1.one A1.ok e1
theorem sndS_cond {c : E} {a b : List Sm} {t : Expr} {x y : List Stmt} {p : Pos} (Cc : SndT X T c t) (A : SndSs X T a x) (B : SndSs X T b y) : SndS X T (.cond c a b) (.If t x y p) := by
  obtain ⟨tc, pc, fc⟩ := Cc
  obtain ⟨ta, pa, fa⟩ := A
  obtain ⟨tb, pb, fb⟩ := B
  refine ⟨_, ps_if pc pa pb, fun g env S σ H Kt r D I e E => ?_⟩
  rw [ex_cond] at e
  refine fc _ _ _ _ _ _ _ _ I e fun d g1 env1 S1 H1 st I1 e1 => ?_
  cases d with
  | true => exact iteBT (fa _ _ _ _ _ _ _ _ I1 e1 (E.step st))
  | false => exact iteBF (fb _ _ _ _ _ _ _ _ I1 e1 (E.step st))
theorem sndS_whl {n : Nat} {c : E} {b : List Sm} {t : Expr} {x : List Stmt} {p : Pos} (hx : X.xe = fun _ _ => False) (Cc : SndT X T c t) (B : SndSs X T b x) : SndS X T (.whl n c b) (.While t x [] p) := by
  obtain ⟨tc, pc, fc⟩ := Cc
  obtain ⟨tb, pb, fb⟩ := B
  refine ⟨_, ps_while (by rw [hx]; exact PassesOwn.never) pc pb, fun g env S σ H Kt r D I e E => ?_⟩
  rw [ex_whl] at e
  generalize hcc : (fun (env : Env) (S : Sta) (k : KB) => ev T c env S (asBl k)) = cc at e
  generalize hbb : (fun (env : Env) (S : Sta) (nx : KS) => exs T b env S { Kt with nx := nx, ct := nx, bk := Kt.nx }) = bb at e
  refine ⟨fun m σ' H' => ∃ g' env' S', Step g (OwnA env σ) H g' (OwnA env' σ') H' ∧ IOk X.K g' env' S' σ' H' ∧ whl cc bb m env' S' Kt.nx = some r, ⟨n, g, env, S, .refl, I, e⟩, ?_⟩
  rintro m σ' H' ⟨g', env', S', st, I', e'⟩
  cases m with
  | zero => rw [whl_zero] at e'; cases e'
  | succ m =>
    rw [whl_succ] at e'
    generalize hkk : (fun (env : Env) (S : Sta) => whl cc bb m env S Kt.nx) = kk at e'
    rw [← hcc, ← hbb] at e'
    refine fc _ _ _ _ _ _ _ _ I' e' fun d g1 env1 S1 H1 st1 I1 e1 => ?_
    cases d with
    | true =>
      refine iteBT ⟨fun σ2 H2 => ∃ m', m' < m + 1 ∧ _, fun _ _ z => z, fb _ _ _ _ _ _ _ _ I1 e1 ?_⟩
      have again : ∀ g2 env2 S2 σ2 H2, Step g1 (OwnA env1 σ') H1 g2 (OwnA env2 σ2) H2 → IOk X.K g2 env2 S2 σ2 H2 → kk env2 S2 = some r →
          ∃ m', m' < m + 1 ∧ ∃ g' env' S', Step g (OwnA env σ) H g' (OwnA env' σ2) H2 ∧ IOk X.K g' env' S' σ2 H2 ∧ whl cc bb m' env' S' Kt.nx = some r := fun g2 env2 S2 σ2 H2 s2 I2 e2 =>
        ⟨m, Nat.lt_succ_self m, g2, env2, S2, (st.trans st1).trans s2, I2, by rw [← hkk] at e2; exact e2⟩
      exact ⟨again, fun g2 env2 S2 σ2 H2 s2 => E.nx g2 env2 S2 σ2 H2 ((st.trans st1).trans s2), again, fun v rv g2 S2 H2 s2 => E.rt v rv g2 S2 H2 ((st.trans st1).trans s2)⟩
    | false => exact iteBF (E.nx _ _ _ _ _ (st.trans st1) I1 e1)
theorem sndS_for {tg : Tg} {it : It} {b : List Sm} {t i : Expr} {x : List Stmt} {p : Pos} (hx : X.xe = fun _ _ => False) (hc : X.calm = true) (hf : notSet i = true) (W : SndI X T it t i) (G : SndG X tg t) (B : SndSs X T b x) : SndS X T (.for tg it b) (.For t i x [] p) := by
  obtain ⟨wi, pw, fw⟩ := W
  obtain ⟨tg', pg, fg⟩ := G
  obtain ⟨tb, pb, fb⟩ := B
  refine ⟨_, ps_for (by rw [hx]; exact PassesOwn.never) hc pw pg pb (folded_of hf X.env), fun g env S σ H Kt r D I e E => ?_⟩
  rw [ex_for] at e
  refine fw _ _ _ _ _ _ _ _ I e fun J ds g1 env1 S1 H1 st1 I1 Wk e1 => ?_
  generalize hbb : (fun (x : Iv.D) (env : Env) (S : Sta) (nx : KS) => bind1 tg (.val x) env S fun env S => exs T b env S { Kt with nx := nx, ct := nx, bk := Kt.nx }) = bb at e1
  refine ⟨fun i m σ' H' => m = ds.length - i ∧ i ≤ ds.length ∧ ∃ g' env' S', Step g1 (OwnA env1 σ) H1 g' (OwnA env' σ') H' ∧ IOk X.K g' env' S' σ' H' ∧ forGo bb (ds.drop i) env' S' Kt.nx = some r, ⟨ds.length, rfl, Nat.zero_le _, g1, env1, S1, .refl, I1, e1⟩, ?_⟩
  rintro i m σ' H' ⟨rfl, hi, g', env', S', st, I', e'⟩
  have later : Later X.K g1 H1 g' H' := Later.of st I1.FO
  by_cases hlt : i < ds.length
  · right
    refine ⟨Wk.go i g' H' later hlt, fun σ2 H2 => ∃ m', m' < ds.length - i ∧ _, fun _ _ z => z, fun x H2 y => ?_⟩
    obtain ⟨d, hd, Rd, hH⟩ := Wk.yld i g' H' x H2 later I'.gh.fs y hlt
    have hdrop : ds.drop i = d :: ds.drop (i + 1) := by
      obtain ⟨h1, h2⟩ := List.getElem?_eq_some_iff.mp hd
      rw [List.drop_eq_getElem_cons h1, h2]
    rw [hdrop] at e'
    rw [forGo_cons] at e'
    generalize hkk : (fun (env : Env) (S : Sta) => forGo bb (ds.drop (i + 1)) env S Kt.nx) = kk at e'
    rw [← hbb] at e'
    obtain ⟨env2, hb2, e3⟩ := bind1_val e'
    have pre : Step g1 (OwnA env1 σ) H1 g' (OwnA env' σ') H2 ∧ IOk X.K g' env' S' σ' H2 := by
      rcases hH with rfl | ⟨q, o, hq, rfl⟩
      · exact ⟨st, I'⟩
      · exact ⟨st.trans ((step_alloc hq).shrink fun a z => .inl z), I'.alloc hq⟩
    obtain ⟨st2, I2⟩ := pre
    refine fg g' env' env2 S' σ' H2 x d _ I2 Rd hb2 fun σ3 I3 o3 _ => fb _ _ _ _ _ _ _ _ I3 e3 ?_
    have st3 : Step g1 (OwnA env1 σ) H1 g' (OwnA env2 σ3) H2 := st2.shrink o3
    have again : ∀ g2 env4 S2 σ2 H4, Step g' (OwnA env2 σ3) H2 g2 (OwnA env4 σ2) H4 → IOk X.K g2 env4 S2 σ2 H4 → kk env4 S2 = some r →
        ∃ m', m' < ds.length - i ∧ m' = ds.length - (i + 1) ∧ i + 1 ≤ ds.length ∧ ∃ g' env' S', Step g1 (OwnA env1 σ) H1 g' (OwnA env' σ2) H4 ∧ IOk X.K g' env' S' σ2 H4 ∧ forGo bb (ds.drop (i + 1)) env' S' Kt.nx = some r := fun g2 env4 S2 σ2 H4 s2 I4 e4 =>
      ⟨_, by omega, rfl, hlt, g2, env4, S2, st3.trans s2, I4, by rw [← hkk] at e4; exact e4⟩
    exact ⟨again, fun g2 env4 S2 σ2 H4 s2 => E.nx g2 env4 S2 σ2 H4 ((st1.trans st3).trans s2), again, fun v rv g2 S2 H4 s2 => E.rt v rv g2 S2 H4 ((st1.trans st3).trans s2)⟩
  · left
    have hi' : i = ds.length := by omega
    subst hi'
    rw [List.drop_length, forGo_nil] at e'
    exact ⟨Wk.stop _ g' H' later (Nat.le_refl _), E.nx _ _ _ _ _ (st1.trans st) I' e'⟩
end
end Iv
end

section
set_option Elab.async false
set_option linter.all false
set_option autoImplicit false
set_option maxRecDepth 100000
namespace Iv
open PySem PySem.Spec PyProof.Rows L2
section
variable {X : Cx} {M : Nm} {T : Tab} {sc : Scope} {L : Nat}
/-- a name is stored -/
theorem asg_end {g : Gh} {env : Env} {σ : L2.St} {H : Hp} {Kt : Kont} {r : RV × Sta} {D : Ends} {j : Nat} {v : V} {ra : RV} {g1 : Gh} {env1 : Env} {S1 : Sta} {H1 : Hp}
    (E : EndsOk X.K g (OwnA env σ) H Kt r D) (A : After X.K g env σ H v ra g1 env1 S1 H1) (e1 : bind1 (.nm j) ra env1 S1 Kt.nx = some r) : D.nx (σ.set j (some v)) H1 := by
  have e1 : (match store ra j env1 with
    | some env' => Kt.nx env' S1
    | none => none) = some r := e1
  split at e1
  · rename_i env2 q
    obtain ⟨g2, st, I2⟩ := store_ok' A.ok A.rv q
    exact E.nx _ _ _ _ _ (A.st.trans st) I2 e1
  · cases e1
theorem sndS_asg {e : E} {j : Nat} {x : Str} {px p : Pos} {v : Expr} (C : CtxOk X M T sc true L) (h1 : M.N[j]? = some x) (h2 : locC true sc x = true) (hs : swapsWith v (some (.Name x px)) p.line X.env = pure false) (A : Snd X T e v) :
    SndS X T (.asg (.nm j) e) (.Assign [.Name x px] v p) := by
  obtain ⟨ta, pa, fa⟩ := A
  obtain ⟨l1, l2⟩ := C.loc h2
  refine ⟨_, ps_set (i := j) (by rw [C.hN]; exact C.nd) (by rw [C.hN]; exact h1) l1 pa hs l2, fun g env S σ H Kt r D I e E => ?_⟩
  rw [ex_asg] at e
  exact fa _ _ _ _ _ _ _ _ I e fun v ra g1 env1 S1 H1 A1 e1 => asg_end E A1 e1
theorem sndS_asgT {e : E} {ts : List Tg} {t v : Expr} {p : Pos} (C : CtxOk X M T sc true L) (ht : chkTg M.N true sc (.tup ts) t = true) (hv : notTup v = true) (A : Snd X T e v) : SndS X T (.asg (.tup ts) e) (.Assign [t] v p) := by
  obtain ⟨ta, pa, fa⟩ := A
  obtain ⟨tg, pg, fg⟩ := sndG (.tup ts) C ht
  cases t
  case Tuple pts k pp =>
    refine ⟨_, ps_asg pa pg (by cases v <;> rfl) (by cases v <;> first | rfl | cases hv) rfl, fun g env S σ H Kt r D I e E => ?_⟩
    rw [ex_asg] at e
    refine fa _ _ _ _ _ _ _ _ I e fun v ra g1 env1 S1 H1 A1 e1 => ?_
    have e1 : (toD ra env1 S1 fun d env S => match bindD (.tup ts) d env with
      | some env' => Kt.nx env' S
      | none => none) = some r := e1
    obtain ⟨d, g2, env2, A2, e2⟩ := A1.toD e1
    split at e2
    · rename_i env3 q
      exact fg g2 env2 env3 S1 σ H1 v d _ A2.ok A2.rep q fun σ' I' o' _ => E.nx _ _ _ _ _ (A2.st.trans (Step.refl.shrink o')) I' e2
    · cases e2
  all_goals exact absurd ht Bool.false_ne_true
/-- y = [..] where the model stores within the comprehension -/
theorem sndS_asgLc {own : List Nat} {elt : E} {tg : Tg} {it : It} {c : Option E} {j : Nat} {x : Str} {px p pl : Pos} {pelt ptg piter : Expr} {pifs : List Expr} {scope : Scope} (C : CtxOk X M T sc true L) (h1 : M.N[j]? = some x)
    (hx : sc.names.lookup x = some .local) (hl : (px.line == pl.line) = true) (hany : (scope.names.any fun (n, k) => n == x && (k == .local || k == .cell)) = false)
    (hw : SndI X T it ptg piter) (hf : notSet piter = true) (hb : blkC M.N sc scope (own.map fun i => (M.N.getD i ("" : Str), i)) = true)
    (hg : ∀ b : Blk, SndG (blkC' X scope b) tg ptg) (hc : ∀ b : Blk, SndC (blkC' X scope b) T c pifs) (he : ∀ b : Blk, Snd (blkC' X scope b) T elt pelt) (ht : tgIn own tg = true) :
    SndS X T (.asg (.nm j) (.lc own elt tg it c)) (.Assign [.Name x px] (.ListComp pelt [⟨ptg, piter, pifs, 0⟩] scope pl) p) := by
  obtain ⟨wi, g, tt, te, pw, pg, pt, pe, q⟩ := snd_lc C hw (folded_of hf X.env) hb hg hc he ht
  have hb' : BlkOk X.N X.env.scope scope (own.map fun i => (M.N.getD i ("" : Str), i)) := by
    rw [C.hN, C.hsc]
    exact blkOk_by hb
  have hx' : X.env.scope.names.lookup x = some .local := by rw [C.hsc]; exact hx
  refine ⟨_, ps_setLc (i := j) C.calm (by rw [C.hN]; exact C.nd) (by rw [C.hN]; exact h1) hx' (sw_true (by rw [C.hsc]; exact C.kind) hx' hl hany) pw hb' (fun s H C' cl fp => pg (s, H, C', cl, fp)) (fun s H C' cl fp => pt (s, H, C', cl, fp)) (fun s H C' cl fp => pe (s, H, C', cl, fp)) (folded_of hf X.env), fun g0 env S σ H Kt r D I e E => ?_⟩
  rw [ex_asg] at e
  rw [own_pairs]
  exact q _ _ _ _ _ _ _ _ I e fun v ra g1 env1 S1 H1 A1 e1 => asg_end E A1 e1
theorem swaps_lc {pelt : Expr} {gs : List Comprehension} {scope : Scope} {pl px : Pos} {x : Str} {l : Nat} (hk : X.env.scope.kind = .function) (h : (decide (X.env.scope.names.lookup x = some .local) && (px.line == pl.line) && !(scope.names.any fun (n, k) => n == x && (k == .local || k == .cell))) = false) :
    swapsWith (.ListComp pelt gs scope pl) (some (.Name x px)) l X.env = pure false := by
  have hb : (X.env.blockKind == .function) = true := by
    unfold Env.blockKind
    rw [hk]; rfl
  have hd : (X.env.kindOf x == some .local) = decide (X.env.scope.names.lookup x = some .local) := by
    show (X.env.scope.names.lookup x == some .local) = _
    cases q : X.env.scope.names.lookup x with
    | none => rfl
    | some k => cases k <;> rfl
  unfold swapsWith
  simp only [hb, hd, Expr.pos, Bool.true_and]
  show (pure (decide (X.env.scope.names.lookup x = some .local) && (px.line == pl.line) && !(scope.names.any fun (n, k) => n == x && (k == .local || k == .cell))) : Sem Bool) = pure false
  rw [h]
/-! ### several targets at once -/
def NewAs : List V → List RV → Addr → Prop
  | v :: vs, rv :: rvs, a => NewA v rv a ∨ NewAs vs rvs a
  | _, _, _ => False
inductive Pend (K : PySem.W.Frag) (g : Gh) (O : Addr → Prop) (σ : L2.St) (H : Hp) : List V → List RV → Prop
  | nil : Pend K g O σ H [] []
  | cons {v : V} {vs : List V} {rv : RV} {rvs : List RV} : RVR K g O σ H v rv → (∀ i, rv ≠ .bor i) → (∀ a, NewA v rv a → ¬ NewAs vs rvs a) → Pend K g O σ H vs rvs → Pend K g O σ H (v :: vs) (rv :: rvs)
theorem newAs_lst {K : PySem.W.Frag} {g : Gh} {O : Addr → Prop} {σ : L2.St} {H : Hp} {vs : List V} {rvs : List RV} {a : Addr} (P : Pend K g O σ H vs rvs) (h : NewAs vs rvs a) : ∃ xs, H a = some (.lst xs) := by
  induction P with
  | nil => cases h
  | cons r _ _ _ ih =>
    rcases h with ⟨⟨ds, e⟩, e2⟩ | h
    · subst e
      obtain ⟨b, xs, e3, _, _, _, h4, _⟩ := r
      rw [e2] at e3; cases e3
      exact ⟨xs, h4⟩
    · exact ih h
def SndR (X : Cx) (T : Tab) (es : Es) (pes : List Expr) : Prop := ∃ t : TA, PA X pes t ∧ ∀ (g : Gh) (env : Env) (S : Sta) (σ : L2.St) (H : Hp) (k : List RV → Env → Sta → Res) (r : RV × Sta) (Q : List V → Hp → Prop), IOk X.K g env S σ H → evr T es env S k = some r →
  (∀ vs rvs g' env' S' H', Step g (OwnA env σ) H g' (fun a => OwnA env' σ a ∨ NewAs vs rvs a) H' → IOk X.K g' env' S' σ H' → Pend X.K g' (OwnA env' σ) σ H' vs rvs → (∀ a, NewAs vs rvs a → H a = none) → k rvs env' S' = some r → Q vs H') → t σ H Q
theorem sndR_nil : SndR X T .nil [] := ⟨_, pa_nil, fun g env S σ H k r Q I e kq => kq [] [] g env S H (Step.refl.shrink fun a z => z.elim id fun z => nomatch z) I .nil (fun a z => nomatch z) e⟩
theorem sndR_cons {e : E} {pe : Expr} {es : Es} {pes : List Expr} (h : chkE M sc e pe = true) (A : Snd X T e pe) (B : SndR X T es pes) : SndR X T (.cons e es) (pe :: pes) := by
  obtain ⟨ta, pa, fa⟩ := A
  obtain ⟨tb, pb, fb⟩ := B
  refine ⟨_, pa_cons pa pb (starEach_of h pes X.env), fun g env S σ H k r Q I e kq => ?_⟩
  have e : (ev T _ env S fun rv env S => match rv with
    | .new ds => evr T es env S fun rvs env S => k (.new ds :: rvs) env S
    | rv => toD rv env S fun d env S => evr T es env S fun rvs env S => k (.val d :: rvs) env S) = some r := e
  refine fa _ _ _ _ _ _ _ _ I e fun v rv g1 env1 S1 H1 A1 e1 => ?_
  have data : ∀ d g2 env2, AftD X.K g env σ H v d g2 env2 S1 H1 → (evr T es env2 S1 fun rvs env S => k (.val d :: rvs) env S) = some r → tb σ H1 fun vs H2 => Q (v :: vs) H2 := fun d g2 env2 A2 e2 => by
    refine fb _ _ _ _ _ _ _ _ A2.ok e2 fun vs rvs g3 env3 S3 H3 st I3 P nw e3 => ?_
    have P1 : Pend X.K g3 (OwnA env3 σ) σ H3 (v :: vs) (.val d :: rvs) := .cons (A2.rep.step st A2.ok.FO) (fun _ z => nomatch z) (fun a z => absurd z newA_val) P
    refine kq (v :: vs) (.val d :: rvs) _ _ _ _ ((A2.st.trans st).shrink fun a z => ?_) I3 P1 (fun a z => ?_) e3
    · rcases z with z | z | z
      · exact .inl z
      · exact absurd z newA_val
      · exact .inr z
    · rcases z with z | z
      · exact absurd z newA_val
      · exact A2.st.fresh (nw a z)
  cases rv with
  | new ds =>
    refine fb _ _ _ _ _ _ _ _ A1.ok e1 fun vs rvs g3 env3 S3 H3 st I3 P nw e3 => ?_
    obtain ⟨a0, xs0, e0, n1, n2, n3, n4, n5⟩ := A1.rv
    have R3 : RVR X.K g3 (OwnA env3 σ) σ H3 v (.new ds) := RVR.step (st.shrink fun a z => .inl z) A1.ok.FO A1.rv
    refine kq (v :: vs) (.new ds :: rvs) _ _ _ _ ((A1.st.trans (st.frame (NewA v (.new ds)))).shrink fun a z => ?_) I3 (.cons R3 (fun _ z => nomatch z) (fun a z q => ?_) P) (fun a z => ?_) e3
    · rcases z with z | z | z
      · exact .inl (.inl z)
      · exact .inr z
      · exact .inl (.inr z)
    · have := nw a q
      rw [z.2] at e0; cases e0
      rw [n4] at this; cases this
    · rcases z with z | z
      · exact A1.nw a z
      · exact A1.st.fresh (nw a z)
  | val d0 =>
    obtain ⟨d, g2, env2, A2, e2⟩ := A1.toD e1
    exact data d g2 env2 A2 e2
  | bor i =>
    obtain ⟨d, g2, env2, A2, e2⟩ := A1.toD e1
    exact data d g2 env2 A2 e2
/-- one of them is stored, the others wait -/
theorem pend_store {K : PySem.W.Frag} {g : Gh} {env env1 : Env} {S : Sta} {σ : L2.St} {H : Hp} {v : V} {rv : RV} {vs : List V} {rvs : List RV} {j : Nat} (I : IOk K g env S σ H) (P : Pend K g (OwnA env σ) σ H (v :: vs) (rv :: rvs)) (e : store rv j env = some env1) :
    IOk K g env1 S (σ.set j (some v)) H ∧ (∀ a, OwnA env1 (σ.set j (some v)) a → OwnA env σ a ∨ NewA v rv a) ∧ Pend K g (OwnA env1 (σ.set j (some v))) (σ.set j (some v)) H vs rvs := by
  cases P with
  | cons R nb ds P =>
    have main : IOk K g env1 S (σ.set j (some v)) H ∧ ∀ a, OwnA env1 (σ.set j (some v)) a → OwnA env σ a ∨ NewA v rv a := by
      cases rv with
      | val d =>
        cases e
        obtain ⟨I1, o1⟩ := I.put (j := j) R
        exact ⟨I1, fun a z => .inl (o1 a z)⟩
      | new es =>
        cases e
        obtain ⟨a, xs, rfl, h1, h2, h3, h4, h5⟩ := R
        obtain ⟨I1, o1⟩ := I.putOwn (j := j) h1 h2 h3 h4 h5
        refine ⟨I1, fun b z => ?_⟩
        rcases o1 b z with z | z
        · exact .inl z
        · exact .inr ⟨⟨es, rfl⟩, by rw [z]⟩
      | bor i => exact absurd rfl (nb i)
    refine ⟨main.1, main.2, ?_⟩
    have go : ∀ {ws : List V} {rws : List RV}, (∀ a, NewA v rv a → ¬ NewAs ws rws a) → Pend K g (OwnA env σ) σ H ws rws → Pend K g (OwnA env1 (σ.set j (some v))) (σ.set j (some v)) H ws rws := by
      intro ws rws hd P
      induction P with
      | nil => exact .nil
      | @cons w ws rw' rws R' nb' ds' P' ih =>
        refine .cons ?_ nb' ds' (ih fun a z q => hd a z (.inr q))
        cases rw' with
        | val d => exact R'
        | new es =>
          obtain ⟨a, xs, e0, h1, h2, h3, h4, h5⟩ := R'
          refine ⟨a, xs, e0, h1, h2, fun z => ?_, h4, h5⟩
          rcases main.2 a z with z | z
          · exact h3 z
          · exact hd a z (.inl ⟨⟨es, rfl⟩, e0⟩)
        | bor i => exact absurd rfl (nb' i)
    exact go ds P
def setAll (σ : L2.St) : List Nat → List V → L2.St
  | i :: is, v :: vs => setAll (σ.set i (some v)) is vs
  | _, _ => σ
def nmsOf : List Tg → List Nat
  | .nm j :: r => j :: nmsOf r
  | _ => []
theorem par_names {K : PySem.W.Frag} {g : Gh} {S : Sta} {H : Hp} : ∀ {ts : List Tg} {env env1 : Env} {σ : L2.St} {vs : List V} {rvs : List RV}, ts.all isNm = true → IOk K g env S σ H → Pend K g (OwnA env σ) σ H vs rvs → bindRs ts rvs env = some env1 →
    IOk K g env1 S (setAll σ (nmsOf ts) vs) H ∧ (∀ a, OwnA env1 (setAll σ (nmsOf ts) vs) a → OwnA env σ a ∨ NewAs vs rvs a) ∧ vs.length = ts.length
  | [], env, env1, σ, vs, rvs, _, I, P, e => by
    cases P with
    | nil => cases e; exact ⟨I, fun a z => .inl z, rfl⟩
    | cons _ _ _ _ => cases e
  | .tup _ :: _, _, _, _, _, _, h, _, _, _ => nomatch h
  | .nm j :: ts, env, env1, σ, vs, rvs, h, I, P, e => by
    have h : ts.all isNm = true := h
    cases P with
    | nil => cases e
    | @cons v vs rv rvs R nb ds P =>
      have e : (match store rv j env with
        | some env' => bindRs ts rvs env'
        | none => none) = some env1 := e
      split at e
      · rename_i env2 q
        obtain ⟨I1, o1, P1⟩ := pend_store I (.cons R nb ds P) q
        obtain ⟨I2, o2, l2⟩ := par_names h I1 P1 e
        refine ⟨I2, fun a z => ?_, by rw [List.length_cons, l2, List.length_cons]⟩
        rcases o2 a z with z | z
        · rcases o1 a z with z | z
          · exact .inl z
          · exact .inr (.inl z)
        · exact .inr (.inr z)
      · cases e
theorem chk_nm {j : Nat} {pe : Expr} {N : List Str} {top : Bool} (h : chkTg N top sc (.nm j) pe = true) : ∃ x p, pe = .Name x p ∧ N[j]? = some x ∧ locC top sc x = true := by
  cases pe
  case Name x p =>
    have h : (decide (N[j]? = some x) && locC top sc x) = true := h
    rw [Bool.and_eq_true, decide_eq_true_eq] at h
    exact ⟨x, p, rfl, h.1, h.2⟩
  all_goals exact absurd h Bool.false_ne_true
def SndGR (X : Cx) (ts : List Tg) (pes : List Expr) : Prop := ∃ t : TGs, PGs X pes t ∧ ∀ (g : Gh) (env env' : Env) (S : Sta) (σ : L2.St) (H : Hp) (vs : List V) (rvs : List RV) (Q : L2.St → Hp → Prop), IOk X.K g env S σ H → Pend X.K g (OwnA env σ) σ H vs rvs → bindRs ts rvs env = some env' →
  (∀ σ', IOk X.K g env' S σ' H → (∀ a, OwnA env' σ' a → OwnA env σ a ∨ NewAs vs rvs a) → Q σ' H) → t vs σ H Q
theorem sndGR (C : CtxOk X M T sc true L) : ∀ (ts : List Tg) {pes : List Expr}, chkTgs M.N true sc ts pes = true → SndGR X ts pes
  | [], [], h => ⟨_, pgs_nil, fun g env env' S σ H vs rvs Q I P e kq => by
      cases P with
      | nil =>
        cases e
        exact ⟨rfl, kq σ I fun a z => .inl z⟩
      | cons _ _ _ _ => cases e⟩
  | [], _ :: _, h => nomatch h
  | _ :: _, [], h => nomatch h
  | t :: ts, pe :: pes, h => by
    have h : (chkTg M.N true sc t pe && chkTgs M.N true sc ts pes) = true := h
    rw [Bool.and_eq_true] at h
    obtain ⟨t2, p2, f2⟩ := sndGR C ts h.2
    cases t with
    | nm j =>
      obtain ⟨x, p, rfl, h1, h2⟩ := chk_nm h.1
      obtain ⟨l1, l2⟩ := C.loc h2
      refine ⟨_, pgs_cons (pg_name (i := j) (by rw [C.hN]; exact C.nd) (by rw [C.hN]; exact h1) l1 l2) p2 (by rw [assignEach_cons h.1 pes X.env]; rfl), fun g env env' S σ H vs rvs Q I P e kq => ?_⟩
      cases P with
      | nil => cases e
      | @cons v vs rv rvs R nb ds P =>
        have e : (match store rv j env with
          | some env' => bindRs ts rvs env'
          | none => none) = some env' := e
        split at e
        · rename_i env2 q
          obtain ⟨I1, o1, P1⟩ := pend_store I (.cons R nb ds P) q
          refine ⟨v, vs, rfl, f2 _ _ _ _ _ _ _ _ _ I1 P1 e fun σ' I' o' => kq σ' I' fun a z => ?_⟩
          rcases o' a z with z | z
          · rcases o1 a z with z | z
            · exact .inl z
            · exact .inr (.inl z)
          · exact .inr (.inr z)
        · cases e
    | tup us =>
      obtain ⟨t1, p1, f1⟩ := sndG (.tup us) C h.1
      refine ⟨_, pgs_cons p1 p2 (by rw [assignEach_cons h.1 pes X.env]; rfl), fun g env env' S σ H vs rvs Q I P e kq => ?_⟩
      cases P with
      | nil => cases e
      | @cons v vs rv rvs R nb ds P =>
        cases rv with
        | val d =>
          have e : (match bindD (.tup us) d env with
            | some env' => bindRs ts rvs env'
            | none => none) = some env' := e
          split at e
          · rename_i env2 q
            refine ⟨v, vs, rfl, f1 g env env2 S σ H v d _ I R q fun σ1 I1 o1 _ => ?_⟩
            have go : ∀ {ws : List V} {rws : List RV}, Pend X.K g (OwnA env σ) σ H ws rws → Pend X.K g (OwnA env2 σ1) σ1 H ws rws := by
              intro ws rws P
              induction P with
              | nil => exact .nil
              | @cons w ws rw' rws R' nb' ds' P' ih =>
                refine .cons ?_ nb' ds' ih
                cases rw' with
                | val d => exact R'
                | new es =>
                  obtain ⟨a, xs, e0, h1, h2, h3, h4, h5⟩ := R'
                  exact ⟨a, xs, e0, h1, h2, fun z => h3 (o1 a z), h4, h5⟩
                | bor i => exact absurd rfl (nb' i)
            refine f2 _ _ _ _ _ _ _ _ _ I1 (go P) e fun σ' I' o' => kq σ' I' fun a z => ?_
            rcases o' a z with z | z
            · exact .inl (o1 a z)
            · exact .inr (.inr z)
          · cases e
        | _ => cases e
end
end Iv
end

section
set_option Elab.async false
set_option linter.all false
set_option autoImplicit false
set_option maxRecDepth 100000
namespace Iv
open PySem PySem.Spec PyProof.Rows L2
section
variable {X : Cx} {M : Nm} {T : Tab} {sc : Scope} {L : Nat}
theorem sndR (C : CtxOk X M T sc true L) : ∀ (es : Es) {l : List Expr}, chkEs M sc es l = true → SndR X T es l
  | .nil, [], _ => sndR_nil
  | .nil, _ :: _, h => nomatch h
  | .cons _ _, [], h => nomatch h
  | .cons e r, x :: q, h => by
    have h : (chkE M sc e x && chkEs M sc r q) = true := h
    rw [Bool.and_eq_true] at h
    exact sndR_cons h.1 ((allE e).v C h.1) (sndR C r h.2)
/-- through a tuple -/
theorem sndS_parT {ts : List Tg} {es : Es} {pts pvs : List Expr} {k k2 : Nat} {p p2 p3 : Pos} (C : CtxOk X M T sc true L) (h1 : chkEs M sc es pvs = true) (h2 : chkTgs M.N true sc ts pts = true) (h3 : swRes sc pts pvs = some none) (h4 : pts.length ≤ 1000) :
    SndS X T (.par ts es) (.Assign [.Tuple pts k p] (.Tuple pvs k2 p2) p3) := by
  obtain ⟨ta, pa, fa⟩ := sndR C es h1
  obtain ⟨tg, pg, fg⟩ := sndGR C ts h2
  obtain ⟨a, b⟩ := assignEach_len h2 X.env
  refine ⟨_, ps_asg (pe_tup pa) (pg_tup C.calm pg a b) rfl (swRes_ok C.hsc C.kind h3) rfl, fun g env S σ H Kt r D I e E => ?_⟩
  rw [ex_par] at e
  refine fa _ _ _ _ _ _ _ _ I e fun vs rvs g1 env1 S1 H1 st I1 P nw e1 => ?_
  have hl : ∀ {vs rvs}, Pend X.K g1 (OwnA env1 σ) σ H1 vs rvs → vs.length = rvs.length := fun {vs rvs} P => by
    induction P with
    | nil => rfl
    | cons _ _ _ _ ih => rw [List.length_cons, List.length_cons, ih]
  split at e1
  · rename_i env2 q
    have hb : ∀ {ts : List Tg} {rvs : List RV} {env env' : Env}, bindRs ts rvs env = some env' → rvs.length = ts.length := by
      intro ts
      induction ts with
      | nil =>
        intro rvs env env' e
        cases rvs with
        | nil => rfl
        | cons _ _ => cases e
      | cons t ts ih =>
        intro rvs env env' e
        cases rvs with
        | nil => cases e
        | cons rv rvs =>
          rw [List.length_cons, List.length_cons]
          cases t with
          | nm j =>
            have e : (match store rv j env with
              | some env' => bindRs ts rvs env'
              | none => none) = some env' := e
            split at e
            · rw [ih e]
            · cases e
          | tup us =>
            cases rv with
            | val d =>
              have e : (match bindD (.tup us) d env with
                | some env' => bindRs ts rvs env'
                | none => none) = some env' := e
              split at e
              · rw [ih e]
              · cases e
            | _ => cases e
    have hc : ∀ {ts : List Tg} {es : List Expr}, chkTgs M.N true sc ts es = true → ts.length = es.length := by
      intro ts
      induction ts with
      | nil =>
        intro es h
        cases es with
        | nil => rfl
        | cons _ _ => cases h
      | cons t ts ih =>
        intro es h
        cases es with
        | nil => cases h
        | cons e es =>
          have h : (chkTg M.N true sc t e && chkTgs M.N true sc ts es) = true := h
          rw [Bool.and_eq_true] at h
          rw [List.length_cons, List.length_cons, ih h.2]
    have hlen : vs.length = pts.length := by rw [hl P, hb q, hc h2]
    have hsz : pts.length ≤ sizeLine := by rw [sizeLine_eq]; omega
    refine ⟨by rw [hlen]; exact hsz, fun t ht => ?_⟩
    have sA : Step g1 (fun a => OwnA env1 σ a ∨ NewAs vs rvs a) H1 g1 (fun a => OwnA env1 σ a ∨ NewAs vs rvs a) (upd H1 t (.tup vs)) := (step_alloc ht).shrink fun a z => .inl z
    have IA := I1.alloc (o := .tup vs) ht
    have PA' : ∀ {vs' rvs'}, Pend X.K g1 (OwnA env1 σ) σ H1 vs' rvs' → Pend X.K g1 (OwnA env1 σ) σ (upd H1 t (.tup vs)) vs' rvs' := fun {vs' rvs'} P => by
      induction P with
      | nil => exact .nil
      | cons R nb ds P ih =>
        refine .cons ?_ nb ds ih
        exact RVR.step ((step_alloc (O := OwnA env1 σ) ht).shrink fun a z => .inl z) I1.FO R
    refine ⟨t, vs, rfl, SqT.of upd_same, hlen, fg _ _ _ _ _ _ _ _ _ IA (PA' P) q fun σ' I' o' => E.nx _ _ _ _ _ ((st.trans sA).shrink o') I' e1⟩
  · cases e1

theorem evr_len : ∀ {es : Es} {env : Env} {S : Sta} {k : List RV → Env → Sta → Res} {r : RV × Sta}, True := fun {_ _ _ _ _} => trivial
theorem setAll2 (σ : L2.St) (i j : Nat) (v w : V) : setAll σ [i, j] [v, w] = (σ.set i (some v)).set j (some w) := rfl
theorem sndS_par {ts : List Tg} {es : Es} {pts pvs : List Expr} {k k2 : Nat} {p p2 p3 : Pos} {ns : List Str} (C : CtxOk X M T sc true L) (h1 : chkEs M sc es pvs = true) (h2 : chkTgs M.N true sc ts pts = true) (h3 : swRes sc pts pvs = some (some ns)) (h4 : parNms M.N sc ts pts ns = true) :
    SndS X T (.par ts es) (.Assign [.Tuple pts k p] (.Tuple pvs k2 p2) p3) := by
  obtain ⟨ta, pa, fa⟩ := sndR C es h1
  have hsw := swRes_ok (k := k) (k2 := k2) (p := p) (p2 := p2) C.hsc C.kind h3
  have hvl : pvs.length = pts.length := by
    unfold swRes at h3
    split at h3
    · cases h3
    · rename_i q
      simp only [Bool.or_eq_true, Bool.not_eq_true', not_or, Bool.not_eq_false] at q
      have := q.2
      simpa using this
  unfold parNms at h4
  split at h4
  · rename_i i j x px y py x' y'
    simp only [Bool.and_eq_true, decide_eq_true_eq] at h4
    obtain ⟨⟨⟨⟨rfl, rfl⟩, hij⟩, hx⟩, hy⟩ := h4
    have h2 : (chkTg M.N true sc (.nm i) (.Name x' px) && (chkTg M.N true sc (.nm j) (.Name y' py) && true)) = true := h2
    simp only [Bool.and_eq_true] at h2
    obtain ⟨_, _, e1, n1, _⟩ := chk_nm h2.1
    cases e1
    obtain ⟨_, _, e2, n2, _⟩ := chk_nm h2.2.1
    cases e2
    match pvs, hvl with
    | [a, b], _ =>
      refine ⟨_, ps_par (i := i) (j := j) C.calm (by rw [C.hN]; exact C.nd) (by rw [C.hN]; exact n1) (by rw [C.hN]; exact n2) hij (by rw [C.hsc]; exact hx) (by rw [C.hsc]; exact hy) pa hsw, fun g env S σ H Kt r D I e E => ?_⟩
      rw [ex_par] at e
      refine fa _ _ _ _ _ _ _ _ I e fun vs rvs g1 env1 S1 H1 st I1 P nw e1 => ?_
      split at e1
      · rename_i env2 q
        obtain ⟨I2, o2, l2⟩ := par_names (ts := [.nm i, .nm j]) rfl I1 P q
        match vs, l2 with
        | [v, w], _ => exact ⟨v, w, rfl, E.nx _ _ _ _ _ (st.shrink o2) I2 e1⟩
      · cases e1
  · rename_i i j l x px y py z pz x' y' z'
    simp only [Bool.and_eq_true, decide_eq_true_eq] at h4
    obtain ⟨⟨⟨⟨⟨⟨⟨⟨rfl, rfl⟩, rfl⟩, hij⟩, hil⟩, hjl⟩, hx⟩, hy⟩, hz⟩ := h4
    have h2 : (chkTg M.N true sc (.nm i) (.Name x' px) && (chkTg M.N true sc (.nm j) (.Name y' py) && (chkTg M.N true sc (.nm l) (.Name z' pz) && true))) = true := h2
    simp only [Bool.and_eq_true] at h2
    obtain ⟨_, _, e1, n1, _⟩ := chk_nm h2.1
    cases e1
    obtain ⟨_, _, e2, n2, _⟩ := chk_nm h2.2.1
    cases e2
    obtain ⟨_, _, e3, n3, _⟩ := chk_nm h2.2.2.1
    cases e3
    match pvs, hvl with
    | [a, b, c], _ =>
      refine ⟨_, ps_par3 (i := i) (j := j) (l := l) C.calm (by rw [C.hN]; exact C.nd) (by rw [C.hN]; exact n1) (by rw [C.hN]; exact n2) (by rw [C.hN]; exact n3) hij hil hjl (by rw [C.hsc]; exact hx) (by rw [C.hsc]; exact hy) (by rw [C.hsc]; exact hz) pa hsw, fun g env S σ H Kt r D I e E => ?_⟩
      rw [ex_par] at e
      refine fa _ _ _ _ _ _ _ _ I e fun vs rvs g1 env1 S1 H1 st I1 P nw e1 => ?_
      split at e1
      · rename_i env2 q
        obtain ⟨I2, o2, l2⟩ := par_names (ts := [.nm i, .nm j, .nm l]) rfl I1 P q
        match vs, l2 with
        | [v, w, u], _ => exact ⟨v, w, u, rfl, E.nx _ _ _ _ _ (st.shrink o2) I2 e1⟩
      · cases e1
  · cases h4
/-- found.append(e) -/
theorem sndS_app {i : Nat} {e : E} {x : Str} {y : Expr} {px ap cp p : Pos} (C : CtxOk X M T sc true L) (h1 : M.N[i]? = some x) (h2 : visC sc x = true) (h3 : nmOk x = true) (h4 : (ap.endLine == cp.line) = true) (h5 : chkE M sc e y = true) (A : Snd X T e y) :
    SndS X T (.app i e) (.Expr (.Call (.Attribute (.Name x px) "append" ap) [y] [] cp) p) := by
  obtain ⟨ta, pa, fa⟩ := A
  have s1 := starEach_of h5 [] X.env
  have pv' : PE X (.Name x px) (tVar i) := pe_var (by rw [C.hN]; exact h1) (C.vis h2) (nm_dbg h3) (nm_cd h3)
  refine ⟨_, ps_expr (pe_bm PySem.F.plainAttrs_list PySem.F.slot_list_append PySem.F.type_list_append mt_append pv' (pa_cons pa pa_nil s1) rfl (by rw [s1]; rfl) h4 s1 rfl) rfl, fun g env S σ H Kt r D I e E => ?_⟩
  rw [ex_app] at e
  split at e
  · rename_i ds0 q0
    obtain ⟨a, xs, m1, m2, m3, m4, m5⟩ := I.own i ds0 q0
    refine ⟨_, m1, .inl ⟨rfl, _, SqL.of m4⟩, ?_⟩
    refine fa _ _ _ _ _ _ _ _ I e fun v ra g1 env1 S1 H1 A1 e1 => ?_
    obtain ⟨d, g2, env2, A2, e2⟩ := A1.toD e1
    split at e2
    · rename_i ds q
      split at e2
      · rename_i hl
        obtain ⟨b, ys, n1, n2, n3, n4, n5⟩ := A2.ok.own i ds q
        rw [m1] at n1; cases n1
        have hi : i < env2.length := eget_lt (by rw [q]; simp)
        have ob : OwnA env2 σ a := ⟨i, ds, q, m1⟩
        refine ⟨a, ys, v, rfl, rfl, n4, by rw [n5.length, sizeLine_eq]; exact hl, ?_⟩
        have w1 : Step g2 (OwnA env2 σ) H1 g2 (OwnA env2 σ) (upd H1 a (.lst (ys ++ [v]))) := step_write (.inl ob) n4 (fun _ z => nomatch z) fun _ _ z => nomatch z
        have w2 : Step g2 (fun b => b = a) H1 g2 (fun b => b = a) (upd H1 a (.lst (ys ++ [v]))) := step_write (.inl rfl) n4 (fun _ z => nomatch z) fun _ _ z => nomatch z
        have hF : ∀ b, g2.F b → ¬ b = a ∧ ¬ SrcA g2 b := fun b z => ⟨fun e => n2 (e ▸ z), A2.ok.gh.fs b z⟩
        have G2 : GhOk X.K g2 S1 (upd H1 a (.lst (ys ++ [v]))) := A2.ok.gh.step w2 fun b z => upd_ne fun e => n3 (e ▸ z)
        have own' : ∀ {j : Nat} {es : List Iv.D}, eget (eput env2 i (.own (ds ++ [d]))) j = .own es → (j = i ∧ es = ds ++ [d]) ∨ (j ≠ i ∧ eget env2 j = .own es) := fun {j es} z => by
          by_cases hj : j = i
          · subst hj
            rw [eget_put_same hi] at z
            cases z
            exact .inl ⟨rfl, rfl⟩
          · rw [eget_put_ne hj] at z
            exact .inr ⟨hj, z⟩
        have I3 : IOk X.K g2 (eput env2 i (.own (ds ++ [d]))) S1 σ (upd H1 a (.lst (ys ++ [v]))) := by
          refine ⟨by rw [eput_len]; exact A2.ok.len, fun j d' z => ?_, fun j es z => ?_, fun j l es fs b z1 z2 z3 z4 => ?_, G2⟩
          · by_cases hj : j = i
            · subst hj
              rw [eget_put_same hi] at z
              cases z
            · rw [eget_put_ne hj] at z
              obtain ⟨w, q1, q2⟩ := A2.ok.val j d' z
              exact ⟨w, q1, q2.step w2 hF⟩
          · rcases own' z with ⟨rfl, rfl⟩ | ⟨hj, z⟩
            · exact ⟨a, ys ++ [v], m1, n2, n3, upd_same, (n5.append (.cons A2.rep .nil)).step w2 hF⟩
            · obtain ⟨b, zs, q1, q2, q3, q4, q5⟩ := A2.ok.own j es z
              have nb : b ≠ a := fun e => hj (A2.ok.dis j i es ds a z q (e ▸ q1) m1)
              exact ⟨b, zs, q1, q2, q3, by rw [upd_ne nb]; exact q4, q5.step w2 hF⟩
          · rcases own' z1 with ⟨e3, e4⟩ | ⟨hj, y1⟩
            · rcases own' z2 with ⟨e5, e6⟩ | ⟨hl', y2⟩
              · rw [e3, e5]
              · subst e3
                exact A2.ok.dis _ _ _ _ b q y2 z3 z4
            · rcases own' z2 with ⟨e5, e6⟩ | ⟨hl', y2⟩
              · subst e5
                exact A2.ok.dis _ _ _ _ b y1 q z3 z4
              · exact A2.ok.dis _ _ _ _ b y1 y2 z3 z4
        refine E.nx _ _ _ _ _ ((A2.st.trans w1).shrink fun b z => ?_) I3 e2
        obtain ⟨j, es, z1, z2⟩ := z
        rcases own' z1 with ⟨rfl, rfl⟩ | ⟨hj, z1⟩
        · exact ⟨_, ds, q, z2⟩
        · exact ⟨j, es, z1, z2⟩
      · cases e2
    · cases e2
  · cases e
/-- source['left'] = e -/
theorem sndS_sset {a e : E} {f : Fld} {o v : Expr} {k0 : Nat} {p1 p2 p : Pos} (C : CtxOk X M T sc true L) (hn : notComp v = true) (A : Snd X T a o) (B : Snd X T e v) : SndS X T (.sset a f e) (.Assign [.Subscript o (.Constant (.str f.name) k0 p1) p2] v p) := by
  obtain ⟨ta, pa, fa⟩ := A
  obtain ⟨tb, pb, fb⟩ := B
  have hu := C.units
  refine ⟨_, ps_dput (by omega) pa pe_str pb (by cases v <;> first | rfl | cases hn), fun g env S σ H Kt r D I e E => ?_⟩
  rw [ex_sset] at e
  refine fb _ _ _ _ _ _ _ _ I e fun w rb g1 env1 S1 H1 B1 e1 => ?_
  obtain ⟨d, g2, env2, B2, e2⟩ := B1.toD e1
  refine fa _ _ _ _ _ _ _ _ B2.ok e2 fun u ra g3 env3 S3 H3 A3 e3 => ?_
  have Rd := B2.two A3
  split at e3
  · split at e3
    · rename_i s hs
      split at e3
      · rename_i s' hput
        have h : Rep X.K g3 H3 u .src := A3.rv
        cases h with
        | @src b c h =>
          obtain ⟨b', c', q1, q2, q3, q4⟩ := A3.ok.gh.so s hs
          rw [h] at q1; cases q1
          have hd : ∃ i, d = .int i ∧ w = .int i := by
            cases d with
            | int i => cases Rd; exact ⟨i, rfl, rfl⟩
            | _ => cases f <;> cases hput
          obtain ⟨i, rfl, rfl⟩ := hd
          have hsA : SrcA g3 b := ⟨_, h, .inl rfl⟩
          have hk : putK (srcK c s) (.inr f.name) (.int i) = srcK c s' := src_put c s s' f _ i rfl hput
          have hc : s'.cells = s.cells := by cases f <;> cases hput <;> rfl
          refine ⟨b, _, rfl, DPut.k (k := Sum.inr f.name) q3 (show 4 < sizeLine by rw [sizeLine_eq]; decide), ?_⟩
          rw [hk]
          have G : GhOk X.K g3 { S3 with src := some s' } (upd H3 b (.dK (srcK c s'))) := by
            refine ⟨fun x z => ?_, A3.ok.gh.fs, (fun z => by cases z), fun t z => ?_, ?_⟩
            · by_cases e : x = b
              · subst e; rw [upd_same]; simp
              · rw [upd_ne e]; exact A3.ok.gh.fr x z
            · cases z
              exact ⟨b, c, h, q2, upd_same, by rw [upd_ne q2.symm, hc]; exact q4⟩
            · rcases A3.ok.gh.scr with ⟨ob, z⟩ | z
              · refine .inl ⟨ob, ?_⟩
                rw [upd_ne (ne_of z q3 (fun z => nomatch z))]
                exact z
              · exact .inr z
          exact E.nx _ _ _ _ _ ((B2.st.trans A3.one).trans (step_write (.inr hsA) q3 (fun _ z => nomatch z) fun _ _ z => nomatch z)) (A3.ok.wsrc hsA q3 (fun _ z => nomatch z) (fun _ _ z => nomatch z) G) e3
      · cases e3
    · cases e3
  · cases e3

theorem asg_nm (C : CtxOk X M T sc true L) {j : Nat} {e : E} {ps : Stmt} (h : chkS M sc (.asg (.nm j) e) ps = true) : SndS X T (.asg (.nm j) e) ps := by
  unfold chkS at h
  split at h
  · rename_i t v p
    rw [Bool.and_eq_true] at h
    obtain ⟨h1, h2⟩ := h
    dsimp only at h2
    split at h2
    · rename_i x px
      unfold chkAsg at h2
      simp only [Bool.and_eq_true, decide_eq_true_eq] at h2
      obtain ⟨⟨h3, h4⟩, h5⟩ := h2
      by_cases hn : notComp v = true
      · exact sndS_asg C h3 h4 (by cases v <;> first | rfl | cases hn) ((allE e).v C h1)
      · rw [Bool.not_eq_true] at hn
        rw [hn, Bool.false_or] at h5
        split at h5
        · rename_i pelt gs scope pl
          by_cases hsw : (decide (sc.names.lookup x = some .local) && (px.line == pl.line) && !(scope.names.any fun (n, k) => n == x && (k == .local || k == .cell))) = true
          · simp only [Bool.and_eq_true, decide_eq_true_eq, Bool.not_eq_true'] at hsw
            cases e
            case lc own elt tg it c =>
              rw [chkE_lc] at h1
              split at h1
              · rename_i q
                cases q
                simp only [Bool.and_eq_true, decide_eq_true_eq] at h1
                obtain ⟨⟨⟨⟨⟨⟨g1, g2⟩, g3⟩, g4⟩, g5⟩, g6⟩, g7⟩ := h1
                subst g1
                have hk := blk_kind g3
                exact sndS_asgLc C h3 hsw.1.1 hsw.1.2 hsw.2 (allI it C g2) (notSet_I g2) g3 (fun b => sndG tg (C.blk hk b) g4) (fun b => (allO c).2 (C.blk hk b) g5) (fun b => (allE elt).v (C.blk hk b) g6) g7
              · cases h1
            all_goals exact absurd h1 Bool.false_ne_true
          · exact sndS_asg C h3 h4 (swaps_lc (by rw [C.hsc]; exact C.kind) (by rw [C.hsc]; exact Bool.eq_false_iff.mpr hsw)) ((allE e).v C h1)
        · cases h5
    · cases h2
  · cases h
theorem asg_tup (C : CtxOk X M T sc true L) {ts : List Tg} {e : E} {ps : Stmt} (h : chkS M sc (.asg (.tup ts) e) ps = true) : SndS X T (.asg (.tup ts) e) ps := by
  unfold chkS at h
  split at h
  · rename_i t v p
    simp only [Bool.and_eq_true] at h
    exact sndS_asgT C h.2.1 h.2.2 ((allE e).v C h.1)
  · cases h
mutual
theorem allS (C : CtxOk X M T sc true L) : ∀ (s : Sm) {ps : Stmt}, chkS M sc s ps = true → SndS X T s ps
  | .asg (.nm j) e, ps, h => asg_nm C h
  | .asg (.tup ts) e, ps, h => asg_tup C h
  | .par ts es, ps, h => by
    unfold chkS at h
    split at h
    · simp only [Bool.and_eq_true, decide_eq_true_eq] at h
      obtain ⟨⟨⟨h1, h2⟩, h3⟩, h4⟩ := h
      split at h4
      · rename_i q
        exact sndS_parT C h1 h2 q h3
      · rename_i ns q
        exact sndS_par C h1 h2 q h4
      · cases h4
    · cases h
  | .app i e, ps, h => by
    unfold chkS at h
    split at h
    · simp only [Bool.and_eq_true, decide_eq_true_eq] at h
      obtain ⟨⟨⟨⟨⟨h1, h2⟩, h3⟩, h4⟩, h5⟩, h6⟩ := h
      subst h1
      exact sndS_app C h2 h3 h4 h5 h6 ((allE e).v C h6)
    · cases h
  | .sset a f e, ps, h => by
    unfold chkS at h
    split at h
    · simp only [Bool.and_eq_true, decide_eq_true_eq] at h
      obtain ⟨⟨⟨h1, h2⟩, h3⟩, h4⟩ := h
      subst h1
      exact sndS_sset C h2 ((allE a).v C h3) ((allE e).v C h4)
    · cases h
  | .drop e, ps, h => by
    unfold chkS at h
    split at h
    · rw [Bool.and_eq_true] at h
      exact sndS_drop h.1 ((allE e).v C h.2)
    · cases h
  | .ret e, ps, h => by
    unfold chkS at h
    split at h
    · exact sndS_ret ((allE e).v C h)
    · cases h
  | .retn, ps, h => by
    unfold chkS at h
    split at h
    · exact sndS_retn
    · cases h
  | .cond c a b, ps, h => by
    unfold chkS at h
    split at h
    · simp only [Bool.and_eq_true] at h
      exact sndS_cond ((allE c).t C h.1.1.1 h.1.1.2) (allSs C a h.1.2) (allSs C b h.2)
    · cases h
  | .whl n c b, ps, h => by
    unfold chkS at h
    split at h
    · simp only [Bool.and_eq_true] at h
      exact sndS_whl C.xe ((allE c).t C h.1.1 h.1.2) (allSs C b h.2)
    · cases h
  | .for tg it b, ps, h => by
    unfold chkS at h
    split at h
    · simp only [Bool.and_eq_true] at h
      exact sndS_for C.xe C.calm (notSet_I h.1.1) (allI it C h.1.1) (sndG tg C h.1.2) (allSs C b h.2)
    · cases h
  | .pass, ps, h => by
    unfold chkS at h
    split at h
    · exact sndS_pass
    · cases h
  | .brk, ps, h => by
    unfold chkS at h
    split at h
    · exact sndS_brk
    · cases h
  | .cont, ps, h => by
    unfold chkS at h
    split at h
    · exact sndS_cont
    · cases h
  | .never, ps, h => sndS_never
theorem allSs (C : CtxOk X M T sc true L) : ∀ (ss : List Sm) {ps : List Stmt}, chkSs M sc ss ps = true → SndSs X T ss ps
  | [], ps, h => by
    cases ps with
    | nil => exact sndSs_nil
    | cons _ _ => cases h
  | s :: r, ps, h => by
    cases ps with
    | nil => cases h
    | cons x q =>
      have h : (chkS M sc s x && chkSs M sc r q) = true := h
      rw [Bool.and_eq_true] at h
      exact sndSs_cons (allS C s h.1) (allSs C r h.2)
end
end
/-! ### a def -/
theorem initE_len : ∀ (ds : List D) (n : Nat), ds.length ≤ n → (initE n ds).length = n
  | [], n, _ => by rw [initE]; simp
  | d :: ds, n, h => by
    rw [List.length_cons] at h
    rw [initE, List.length_cons, initE_len ds (n - 1) (by omega)]
    omega
theorem eget_none : ∀ (n i : Nat), eget (List.replicate n Slot.none) i = .none
  | 0, _ => rfl
  | n + 1, 0 => rfl
  | n + 1, i + 1 => by
    show eget (List.replicate n Slot.none) i = _
    exact eget_none n i
theorem initE_get : ∀ (ds : List D) (n i : Nat), eget (initE n ds) i = match ds[i]? with
    | some d => .val d
    | none => .none
  | [], n, i => by rw [initE, eget_none]; simp
  | d :: ds, n, 0 => rfl
  | d :: ds, n, i + 1 => by
    show eget (initE (n - 1) ds) i = _
    rw [initE_get ds (n - 1) i]; simp
section
variable {P : Program} {w : World} {K : PySem.W.Frag} {mg : Str → Option Value} {base : Heap}
theorem start_get (N : List Str) (vs : List V) (i : Nat) (v : V) (h : vs[i]? = some v) : (L2.start N vs)[i]? = some (some v) := by
  unfold L2.start
  have hl : i < vs.length := (List.getElem?_eq_some_iff.mp h).1
  rw [List.getElem?_append_left (by rw [List.length_map]; exact hl), List.getElem?_map, h]; rfl
/-- THE RULE for a def -/
theorem def_ok {x qual : Str} {st : Stmt} {f : Addr} {fd : FuncData} {M : Nm} {ps : List Str} {L : Nat} {T : Tab} {b : List Sm} (F : Fun K x qual st f fd) (S : FnScope M.N ps (defScope st)) (hT : M.T = T.map (·.1)) (hb : chkSs M (defScope st) b (defBody st) = true)
    (hblt : ∀ y ∈ Blts, mg y = none) (hfns : ∀ (i : Nat) (y : Str) (φ : Fn), T[i]? = some (y, φ) → FnAt P w K mg base L y φ) :
    FnG P w K mg base (L + 1) f fd ps (spD K (fnOf T M.N.length ps.length b) ps.length) := by
  refine fnG_of F S (fun vs H Q E h => h.1) fun cdv A outer s H vs Q E gd hr h => ?_
  obtain ⟨hl, g, ds, S0, r, R, G, hφ, kq⟩ := h
  have C : CtxOk (cxOf CX0 P w K mg base M.N qual (defScope st) f cdv A outer s H E).nox M T (defScope st) true L :=
    ⟨rfl, hT, S.nd, rfl, S.kind, rfl, rfl, gd, hr, hblt, hfns, fun _ _ => rfl⟩
  obtain ⟨t, pt, ft⟩ := allSs C b hb
  have hpl : ps.length ≤ M.N.length := by have := congrArg List.length S.pre; rw [List.length_take] at this; omega
  have hdl : ds.length = ps.length := R.length.symm.trans hl
  unfold fnOf at hφ
  rw [if_pos hdl] at hφ
  have noown : ∀ i es, eget (initE M.N.length ds) i ≠ .own es := fun i es z => by
    rw [initE_get] at z
    cases q : ds[i]? with
    | none => rw [q] at z; cases z
    | some d => rw [q] at z; cases z
  have I0 : IOk K g (initE M.N.length ds) S0 (L2.start M.N vs) H := by
    refine ⟨?_, fun i d e => ?_, fun i es e => absurd e (noown i es), fun i j es fs a e => absurd e (noown i es), G⟩
    · rw [initE_len ds _ (by omega)]
      unfold L2.start
      rw [List.length_append, List.length_map, List.length_replicate]
      omega
    · rw [initE_get] at e
      cases q : ds[i]? with
      | none => rw [q] at e; cases e
      | some d' =>
        rw [q] at e
        cases e
        obtain ⟨v, h1, h2⟩ := R.getD q
        exact ⟨v, start_get _ _ _ _ h1, h2⟩
  have O0 : ∀ a, OwnA (initE M.N.length ds) (L2.start M.N vs) a → False := fun a ⟨i, es, e, _⟩ => noown i es e
  refine ⟨t, pt, ft g _ S0 _ H _ r _ I0 hφ ⟨fun g' env' S' σ' H' st' I' e => ?_, fun g' env' S' σ' H' st' I' e => (by cases e), fun g' env' S' σ' H' st' I' e => (by cases e), fun v rv g' S' H' st' G' R' e => ?_⟩⟩
  · cases e
    exact kq .non g' H' ((st'.widen O0).shrink fun a z => absurd z newA_val) I'.gh .non
  · cases e
    exact kq v g' H' (st'.widen O0) G' R'
theorem fnAt_of {x qual : Str} {st : Stmt} {f : Addr} {fd : FuncData} {M : Nm} {ps : List Str} {L L' : Nat} {T : Tab} {b : List Sm} (F : Fun K x qual st f fd) (S : FnScope M.N ps (defScope st)) (hT : M.T = T.map (·.1)) (hb : chkSs M (defScope st) b (defBody st) = true)
    (hblt : ∀ y ∈ Blts, mg y = none) (hfns : ∀ (i : Nat) (y : Str) (φ : Fn), T[i]? = some (y, φ) → FnAt P w K mg base L y φ) (hm : mg x = some (.ref f)) (bd : Binds K fd ps []) (hL : L + 1 ≤ L') :
    FnAt P w K mg base L' x (fnOf T M.N.length ps.length b) :=
  .mk <| .inl ⟨f, fd, ps, L + 1, hm, F.kp, bd, hL, def_ok F S hT hb hblt hfns, fun ds S r h => by
    unfold fnOf at h
    split at h
    · assumption
    · cases h⟩
end
end Iv
end

section
set_option Elab.async false
set_option linter.all false
set_option autoImplicit false
set_option maxRecDepth 100000
namespace Iv
open PySem L2
/-! ### mirrors: what a def does, as a plain function that may fail -/
section
variable {α β γ ρ : Type}
theorem andO_some (a : α) (k : α → Option β) : andO (some a) k = k a := rfl
theorem andO_none (k : α → Option β) : andO none k = none := rfl
theorem andO_if (c : Prop) [Decidable c] (x y : Option α) (k : α → Option β) : andO (if c then x else y) k = if c then andO x k else andO y k := by split <;> rfl
theorem andO_and (o : Option α) (f : α → Option β) (k : β → Option γ) : andO (andO o f) k = andO o fun a => andO (f a) k := by cases o <;> rfl
theorem andO_sel (c : Bool) (x y : Option α) (k : α → Option β) : andO (selB c x y) k = selB c (andO x k) (andO y k) := by cases c <;> rfl
theorem selB_true (x y : α) : selB true x y = x := rfl
theorem selB_false (x y : α) : selB false x y = y := rfl
theorem selB_if (c : Bool) (x y : α) : selB c x y = if c = true then x else y := by cases c <;> rfl
noncomputable def iterO (t : α → Option Bool) (f : α → Option α) (n : Nat) : α → Option α :=
  Nat.rec (motive := fun _ => α → Option α) (fun _ => none) (fun _ ih s => andO (t s) fun b => selB b (andO (f s) ih) (some s)) n
theorem iterO_succ (t : α → Option Bool) (f : α → Option α) (n : Nat) (s : α) : iterO t f (n + 1) s = andO (t s) fun b => selB b (andO (f s) (iterO t f n)) (some s) := rfl
noncomputable def foldO (f : α → β → Option α) (l : List β) : α → Option α :=
  List.rec (motive := fun _ => α → Option α) (fun s => some s) (fun x _ ih s => andO (f s x) ih) l
theorem foldO_nil (f : α → β → Option α) (s : α) : foldO f [] s = some s := rfl
theorem foldO_cons (f : α → β → Option α) (x : β) (r : List β) (s : α) : foldO f (x :: r) s = andO (f s x) (foldO f r) := rfl
/-- the numbers lo, lo + 1, .. -/
noncomputable def upTo (lo : Int) (n : Nat) : List Int := Nat.rec (motive := fun _ => Int → List Int) (fun _ => []) (fun _ ih lo => lo :: ih (lo + 1)) n lo
theorem upTo_succ (lo : Int) (n : Nat) : upTo lo (n + 1) = lo :: upTo (lo + 1) n := rfl
theorem rangeD_up : ∀ (n : Nat) (lo : Int), rangeD lo n = (upTo lo n).map D.int
  | 0, _ => rfl
  | n + 1, lo => by
    show D.int lo :: rangeD (lo + 1) n = D.int lo :: (upTo (lo + 1) n).map D.int
    rw [rangeD_up n]
noncomputable def enumL (l : List β) : Int → List (Int × β) := List.rec (motive := fun _ => Int → List (Int × β)) (fun _ => []) (fun x _ ih i => (i, x) :: ih (i + 1)) l
/-- a comprehension whose turns tell what they keep -/
noncomputable def lcO (f : β → Option (Option γ)) (l : List β) : Nat → Option (List γ) :=
  List.rec (motive := fun _ => Nat → Option (List γ)) (fun _ => some []) (fun x _ ih n => andO (f x) fun o => Option.rec (motive := fun _ => Option (List γ)) (ih n) (fun y => if n < LINE then andO (ih (n + 1)) fun r => some (y :: r) else none) o) l
def cutL (xs : List β) (lo hi : Option Int) : List β := (xs.drop (HT.sIx xs.length 0 lo)).take (HT.sIx xs.length xs.length hi - HT.sIx xs.length 0 lo)
theorem cutD_map (e : β → D) (xs : List β) (lo hi : Option Int) : cutD (xs.map e) lo hi = (cutL xs lo hi).map e := by
  unfold cutD cutL
  rw [List.length_map, ← List.map_drop, ← List.map_take]
noncomputable def nthL (l : List β) (i : Nat) : Option β := (List.rec (motive := fun _ => Nat → Option β) (fun _ => none) (fun s _ ih i => Nat.rec (motive := fun _ => Option β) (some s) (fun i _ => ih i) i) l) i
theorem nthL_eq : ∀ (l : List β) (i : Nat), nthL l i = l[i]?
  | [], i => by cases i <;> rfl
  | x :: r, 0 => rfl
  | x :: r, i + 1 => by
    show nthL r i = _
    rw [nthL_eq r i, List.getElem?_cons_succ]
noncomputable def getL (xs : List β) (i : Int) : Option β := andO (ixOf xs.length i) (nthL xs)
theorem nth_map (e : β → D) : ∀ (xs : List β) (i : Nat), nth (xs.map e) i = andO (nthL xs i) fun x => some (e x)
  | [], i => by cases i <;> rfl
  | x :: r, 0 => rfl
  | x :: r, i + 1 => nth_map e r i
theorem item_map (e : β → D) (xs : List β) (i : Int) : item (.lst (xs.map e)) (.int i) = andO (getL xs i) fun x => some (e x) := by
  unfold item getL
  simp only [List.length_map]
  cases ixOf xs.length i with
  | none => rfl
  | some n => exact nth_map e xs n
/-! embeddings -/
def e1 {A : Type} (a : A → D) (p : A) : D := .tup [a p]
def e2 {A B : Type} (a : A → D) (b : B → D) (p : A × B) : D := .tup [a p.1, b p.2]
def e3 {A B C : Type} (a : A → D) (b : B → D) (c : C → D) (p : A × B × C) : D := .tup [a p.1, b p.2.1, c p.2.2]
def e4 {A B C E : Type} (a : A → D) (b : B → D) (c : C → D) (d : E → D) (p : A × B × C × E) : D := .tup [a p.1, b p.2.1, c p.2.2.1, d p.2.2.2]
def e5 {A B C E G : Type} (a : A → D) (b : B → D) (c : C → D) (d : E → D) (f : G → D) (p : A × B × C × E × G) : D := .tup [a p.1, b p.2.1, c p.2.2.1, d p.2.2.2.1, f p.2.2.2.2]
def e6 {A B C E G I : Type} (a : A → D) (b : B → D) (c : C → D) (d : E → D) (f : G → D) (h : I → D) (p : A × B × C × E × G × I) : D := .tup [a p.1, b p.2.1, c p.2.2.1, d p.2.2.2.1, f p.2.2.2.2.1, h p.2.2.2.2.2]
def e7 {A B C E G I J : Type} (a : A → D) (b : B → D) (c : C → D) (d : E → D) (f : G → D) (h : I → D) (i : J → D) (p : A × B × C × E × G × I × J) : D := .tup [a p.1, b p.2.1, c p.2.2.1, d p.2.2.2.1, f p.2.2.2.2.1, h p.2.2.2.2.2.1, i p.2.2.2.2.2.2]
/-- tuples of any length -/
def eT {A : Type} (a : A → D) (l : List A) : D := .tup (l.map a)
def eL {A : Type} (a : A → D) (l : List A) : D := .lst (l.map a)
theorem enumD_map (e : β → D) : ∀ (xs : List β) (i : Nat), enumD i (xs.map e) = (enumL xs (i : Int)).map (e2 .int e)
  | [], _ => rfl
  | x :: r, i => by
    show D.tup [.int i, e x] :: enumD (i + 1) (r.map e) = D.tup [.int i, e x] :: (enumL r ((i : Int) + 1)).map (e2 .int e)
    rw [enumD_map e r (i + 1)]
    congr 2
/-- the mirror's word holds of the def; where the mirror fails nothing is said -/
def Le (a b : Res) : Prop := ∀ r, a = some r → b = some r
instance : HasSubset Res := ⟨Le⟩
theorem le_rfl {a : Res} : a ⊆ a := fun _ h => h
theorem le_none {a : Res} : (none : Res) ⊆ a := fun _ h => by cases h
theorem le_trans {a b c : Res} (h : a ⊆ b) (h' : b ⊆ c) : a ⊆ c := fun r z => h' r (h r z)
theorem le_of_eq {a b : Res} (h : a = b) : a ⊆ b := by rw [h]; exact le_rfl
theorem le_and {o : Option β} {f g : β → Res} (h : ∀ a, f a ⊆ g a) : andO o f ⊆ andO o g := by
  cases o with
  | none => exact le_none
  | some a => exact h a
/-! one step of a def against one step of its mirror -/
variable {M : Option α} {F : α → Res} {L : Res}
theorem p_if {c : Prop} [Decidable c] (h : andO M F ⊆ L) : andO (if c then M else none) F ⊆ if c then L else none := by split; exact h; exact le_none
theorem p_ifd {j : Int} (h : andO M F ⊆ L) : andO (if divOk j = true then M else none) F ⊆ Bool.rec (motive := fun _ => Res) none L (divOk j) := by
  cases divOk j with
  | false => exact le_none
  | true => exact h
theorem p_ifn {c : Prop} [Decidable c] (h : andO M F ⊆ L) : andO (if c then none else M) F ⊆ if c then none else L := by split; exact le_none; exact h
theorem p_sel {c : Bool} {A B : Option α} {L1 L2 : Res} (h1 : andO A F ⊆ L1) (h2 : andO B F ⊆ L2) : andO (selB c A B) F ⊆ selB c L1 L2 := by cases c; exact h2; exact h1
theorem p_sel_f {A B : Option α} (h2 : andO B F ⊆ L) : andO (selB false A B) F ⊆ L := h2
theorem p_sel_t {A B : Option α} (h2 : andO A F ⊆ L) : andO (selB true A B) F ⊆ L := h2
theorem p_selc_t {c : Bool} {L1 L2 : Res} (hc : c = true) (h : andO M F ⊆ L1) : andO M F ⊆ selB c L1 L2 := by subst hc; exact h
theorem p_selc_f {c : Bool} {L1 L2 : Res} (hc : c = false) (h : andO M F ⊆ L2) : andO M F ⊆ selB c L1 L2 := by subst hc; exact h
theorem p_assoc {o : Option β} {f : β → Option α} (h : andO o (fun a => andO (f a) F) ⊆ L) : andO (andO o f) F ⊆ L := by rw [andO_and]; exact h
theorem p_leaf {a : α} (h : F a ⊆ L) : andO (some a) F ⊆ L := h
theorem p_call {o : Option ρ} {φ : Res} {e : ρ → RV × Sta} (hφ : (andO o fun r => some (e r)) ⊆ φ) {f : ρ → Option α} {k : RV × Sta → Res} (h : ∀ r, andO (f r) F ⊆ k (e r)) : andO (andO o f) F ⊆ andO φ k := by
  rw [andO_and]
  cases o with
  | none => exact le_none
  | some r =>
    rw [hφ (e r) rfl]
    exact h r
theorem p_item {e : β → D} {xs : List β} {i : Int} {f : β → Option α} {k : D → Res} (h : ∀ x, andO (f x) F ⊆ k (e x)) : andO (andO (getL xs i) f) F ⊆ andO (item (.lst (xs.map e)) (.int i)) k := by
  rw [item_map, andO_and, andO_and]
  exact le_and h
theorem p_slc {e : β → D} {xs : List β} {lo hi : Option Int} {k : RV → Res} {X : Res} (h : X ⊆ k (.new ((cutL xs lo hi).map e))) : X ⊆ sliceR (.lst (xs.map e)) lo hi k := by
  rw [sliceR_eq]
  show X ⊆ k (.new (cutD (xs.map e) lo hi))
  rw [cutD_map]; exact h
theorem p_slcT {e : β → D} {xs : List β} {lo hi : Option Int} {k : RV → Res} {X : Res} (h : X ⊆ k (.val (.tup ((cutL xs lo hi).map e)))) : X ⊆ sliceR (.tup (xs.map e)) lo hi k := by
  rw [sliceR_eq]
  show X ⊆ k (.val (.tup (cutD (xs.map e) lo hi)))
  rw [cutD_map]; exact h
theorem p_cat {e : β → D} {xs ys : List β} {k : RV → Res} (h : andO M F ⊆ k (.new ((xs ++ ys).map e))) : andO (if xs.length + ys.length ≤ LINE then M else none) F ⊆ catR (xs.map e) (ys.map e) k := by
  rw [catR_eq, List.length_map, List.length_map]
  split
  · rw [← List.map_append]; exact h
  · exact le_none
theorem p_catT {e : β → D} {xs ys : List β} {k : RV → Res} (h : andO M F ⊆ k (.val (.tup ((xs ++ ys).map e)))) : andO (if xs.length + ys.length ≤ LINE then M else none) F ⊆ catT (xs.map e) (ys.map e) k := by
  rw [catT_eq, List.length_map, List.length_map]
  split
  · rw [← List.map_append]; exact h
  · exact le_none
theorem reps_map {e : β → D} {xs : List β} : ∀ n : Nat, reps (xs.map e) n = (List.flatten (List.replicate n xs)).map e
  | 0 => rfl
  | n + 1 => by
    rw [reps, reps_map n, List.replicate_succ, List.flatten_cons, List.map_append]
theorem p_rep {e : β → D} {xs : List β} {j : Int} {k : RV → Res} (h : andO M F ⊆ k (.new ((List.flatten (List.replicate j.toNat xs)).map e))) : andO (if decide (-1000000 < j) && decide (j < 1000000) && decide (xs.length * j.toNat ≤ LINE) then M else none) F ⊆ repR (xs.map e) j k := by
  rw [repR_eq, List.length_map]
  split
  · rw [reps_map]; exact h
  · exact le_none
theorem boolsOf_map : ∀ (xs : List Bool), boolsOf (xs.map D.bl) = some xs
  | [] => rfl
  | x :: r => by
    have h := boolsOf_map r
    unfold boolsOf
    simp only [List.map_cons, h]
    rfl
theorem p_all {xs : List Bool} {k : RV → Res} {X : Res} (h : X ⊆ k (.val (.bl (xs.all id)))) : X ⊆ allR (xs.map D.bl) k := by
  unfold allR
  rw [boolsOf_map]; exact h
theorem p_any {xs : List Bool} {k : RV → Res} {X : Res} (h : X ⊆ k (.val (.bl (xs.any id)))) : X ⊆ anyR (xs.map D.bl) k := by
  unfold anyR
  rw [boolsOf_map]; exact h
theorem item_mapT (e : β → D) (xs : List β) (i : Int) : item (.tup (xs.map e)) (.int i) = andO (getL xs i) fun x => some (e x) := by
  unfold item getL
  simp only [List.length_map]
  cases ixOf xs.length i with
  | none => rfl
  | some n => exact nth_map e xs n
theorem p_itemT {e : β → D} {xs : List β} {i : Int} {f : β → Option α} {k : D → Res} (h : ∀ x, andO (f x) F ⊆ k (e x)) : andO (andO (getL xs i) f) F ⊆ andO (item (.tup (xs.map e)) (.int i)) k := by
  rw [item_mapT, andO_and, andO_and]
  exact le_and h
theorem p_rev {e : β → D} {xs : List β} {k : RV → Res} {X : Res} (h : X ⊆ k (.new (xs.reverse.map e))) : X ⊆ revR (xs.map e) k := by
  rw [revR_eq]
  rw [← List.map_reverse]; exact h
theorem p_revT {e : β → D} {xs : List β} {k : RV → Res} {X : Res} (h : X ⊆ k (.val (.tup (xs.reverse.map e)))) : X ⊆ revT (xs.map e) k := by
  rw [revT_eq]
  rw [← List.map_reverse]; exact h
noncomputable def unL2 (xs : List β) (k : β → β → Option α) : Option α := List.rec (motive := fun _ => Option α) none (fun a r _ => List.rec (motive := fun _ => Option α) none (fun b q _ => List.rec (motive := fun _ => Option α) (k a b) (fun _ _ _ => none) q) r) xs
theorem unL2_eq (a b : β) (k : β → β → Option α) : unL2 [a, b] k = k a b := rfl
theorem p_un2 {xs : List β} {k : β → β → Option α} (h : ∀ a b, xs = [a, b] → andO (k a b) F ⊆ L) : andO (unL2 xs k) F ⊆ L := by
  match xs, h with
  | [], _ => exact le_none
  | [_], _ => exact le_none
  | [a, b], h => exact h a b rfl
  | _ :: _ :: _ :: _, _ => exact le_none
theorem p_opt {w : Option β} {f : β → Option α} (h : ∀ x, w = some x → andO (f x) F ⊆ L) : andO (andO w f) F ⊆ L := by
  cases w with
  | none => exact le_none
  | some x => exact h x rfl
theorem p_isnk {x : D} {c : Bool} {k : Bool → Res} {X : Res} (hc : isN x = c) (h : X ⊆ k c) : X ⊆ isnR x k := by
  rw [isnR_eq, hc]; exact h
noncomputable def eO (e : β → D) (w : Option β) : D := Option.rec (motive := fun _ => D) .non e w
theorem p_isnO {e : β → D} (he : ∀ a, isN (e a) = false) {w : Option β} {k : Bool → Res} {X : Res} (h : X ⊆ k w.isNone) : X ⊆ isnR (eO e w) k := by
  rw [isnR_eq]
  cases w with
  | none => exact h
  | some a =>
    show X ⊆ k (isN (e a))
    rw [he]; exact h
theorem p_len {e : β → D} {xs : List β} {k : RV → Res} {X : Res} (h : X ⊆ k (.val (.int (xs.length : Int)))) : X ⊆ lenR (xs.map e) k := by
  rw [lenR_eq]
  rw [List.length_map]; exact h
theorem p_lenN {ds : List D} {n : Int} {k : RV → Res} {X : Res} (hn : (ds.length : Int) = n) (h : X ⊆ k (.val (.int n))) : X ⊆ lenR ds k := by
  rw [lenR_eq, hn]; exact h
theorem intsOf_map : ∀ (xs : List Int), intsOf (xs.map D.int) = some xs
  | [] => rfl
  | x :: r => by
    have h := intsOf_map r
    unfold intsOf
    simp only [List.map_cons, h]
    rfl
theorem p_sum {xs : List Int} {k : RV → Res} {X : Res} (h : X ⊆ k (.val (.int (sumI xs)))) : X ⊆ sumR (xs.map D.int) k := by
  unfold sumR
  rw [intsOf_map]; exact h
theorem p_sortI {xs : List Int} {k : RV → Res} {X : Res} (h : X ⊆ k (.new ((isort xs).map D.int))) : X ⊆ sortR (xs.map D.int) k := by
  unfold sortR sortD
  rw [intsOf_map]; exact h
theorem prsOf_map : ∀ (xs : List (Int × Int)), prsOf (xs.map (e2 .int .int)) = some xs
  | [] => rfl
  | x :: r => by
    show (prsOf (r.map (e2 .int .int))).map ((x.1, x.2) :: ·) = _
    rw [prsOf_map r]; rfl
theorem p_sortP {xs : List (Int × Int)} {k : RV → Res} {X : Res} (h : X ⊆ k (.new ((psort xs).map (e2 .int .int)))) : X ⊆ sortR (xs.map (e2 .int .int)) k := by
  unfold sortR sortD
  cases xs with
  | nil => exact h
  | cons x r =>
    have e : intsOf ((x :: r).map (e2 .int .int)) = none := rfl
    rw [e, prsOf_map]; exact h
/-! stars -/
theorem fl_n {e : β → D} : flat [] [] = some (([] : List β).map e) := rfl
theorem fl_c {e : β → D} {f : List Bool} {r : List D} {x : β} {ys : List β} (h : flat f r = some (ys.map e)) : flat (false :: f) (e x :: r) = some ((x :: ys).map e) := by
  show (flat f r).map (e x :: ·) = _
  rw [h]; rfl
theorem fl_s {e : β → D} {f : List Bool} {r : List D} {xs ys : List β} (h : flat f r = some (ys.map e)) : flat (true :: f) (.lst (xs.map e) :: r) = some ((xs ++ ys).map e) := by
  show (flat f r).map (xs.map e ++ ·) = _
  rw [h, List.map_append]; rfl
theorem p_flT {e : β → D} {f : List Bool} {ds : List D} {ys : List β} {k : RV → Res} (hf : flat f ds = some (ys.map e)) (h : andO M F ⊆ k (.val (.tup (ys.map e)))) : andO (if ys.length ≤ LINE then M else none) F ⊆ flatTR f ds k := by
  unfold flatTR
  rw [hf]
  show _ ⊆ if (ys.map e).length ≤ LINE then _ else _
  rw [List.length_map]
  split
  · exact h
  · exact le_none
theorem p_flL {e : β → D} {f : List Bool} {ds : List D} {ys : List β} {k : RV → Res} (hf : flat f ds = some (ys.map e)) (h : andO M F ⊆ k (.new (ys.map e))) : andO (if ys.length ≤ LINE then M else none) F ⊆ flatLR f ds k := by
  unfold flatLR
  rw [hf]
  show _ ⊆ if (ys.map e).length ≤ LINE then _ else _
  rw [List.length_map]
  split
  · exact h
  · exact le_none
theorem p_flat0 {f : List Bool} {ds xs : List D} {k : RV → Res} {X : Res} (hf : flat f ds = some xs) (hl : Nat.ble xs.length LINE = true) (h : X ⊆ k (.val (.tup xs))) : X ⊆ flatTR f ds k := by
  unfold flatTR
  rw [hf]
  show _ ⊆ if xs.length ≤ LINE then _ else _
  rw [if_pos (Nat.le_of_ble_eq_true hl)]
  exact h
theorem p_push {e : β → D} {xs : List β} {x : β} {k : List D → Res} (h : andO M F ⊆ k ((xs ++ [x]).map e)) : andO (if xs.length < LINE then M else none) F ⊆ pushR (xs.map e) (e x) k := by
  unfold pushR
  rw [List.length_map]
  split
  · rw [List.map_append] at h; exact h
  · exact le_none
theorem p_whl {δ : Type} {c : Env → Sta → KB → Res} {b : Env → Sta → KS → Res} {S : Sta} {R : δ → Env → Prop} {t : δ → Option Bool} {f : δ → Option δ}
    (hc : ∀ s env kb (F : Bool → Res), R s env → (∀ x, F x ⊆ kb x env S) → andO (t s) F ⊆ c env S kb)
    (hb : ∀ s env nx (F : δ → Res), R s env → (∀ s' env', R s' env' → F s' ⊆ nx env' S) → andO (f s) F ⊆ b env S nx) :
    ∀ {n : Nat} {s : δ} {env : Env} {k : KS} {g : δ → Option α} {F : α → Res}, R s env → (∀ s' env', R s' env' → andO (g s') F ⊆ k env' S) → andO (andO (iterO t f n s) g) F ⊆ whl c b n env S k
  | 0, s, env, k, g, F, _, _ => by rw [whl_zero]; exact le_none
  | n + 1, s, env, k, g, F, hR, hk => by
    rw [whl_succ, iterO_succ, andO_and, andO_and]
    refine hc s env _ _ hR fun x => ?_
    cases x with
    | false => exact hk s env hR
    | true =>
      show (andO (andO (f s) (iterO t f n)) fun a => andO (g a) F) ⊆ b env S fun env S => whl c b n env S k
      rw [andO_and]
      refine hb s env _ _ hR fun s' env' hR' => ?_
      have := p_whl hc hb (n := n) hR' hk
      rw [andO_and] at this
      exact this
theorem p_for {δ : Type} {b : D → Env → Sta → KS → Res} {S : Sta} {R : δ → Env → Prop} {e : β → D} {f : δ → β → Option δ}
    (hb : ∀ s x env nx (F : δ → Res), R s env → (∀ s' env', R s' env' → F s' ⊆ nx env' S) → andO (f s x) F ⊆ b (e x) env S nx) :
    ∀ {l : List β} {l' : List D} {s : δ} {env : Env} {k : KS} {g : δ → Option α} {F : α → Res}, l' = l.map e → R s env → (∀ s' env', R s' env' → andO (g s') F ⊆ k env' S) → andO (andO (foldO f l s) g) F ⊆ forGo b l' env S k
  | [], l', s, env, k, g, F, hl, hR, hk => by
    subst hl
    rw [List.map_nil, forGo_nil]; exact hk s env hR
  | x :: r, l', s, env, k, g, F, hl, hR, hk => by
    subst hl
    rw [List.map_cons, forGo_cons, foldO_cons, andO_and, andO_and]
    refine hb s x env _ _ hR fun s' env' hR' => ?_
    have := p_for hb (l := r) rfl hR' hk
    rw [andO_and] at this
    exact this
theorem p_pop {o : Option β} {f : β → Option α} {k : β → Res} (h : ∀ p, andO (f p) F ⊆ k p) : andO (andO o f) F ⊆ andO o k := by
  rw [andO_and]
  exact le_and h
theorem p_ints {xs : List Int} {k : List Int → Res} {X : Res} (h : X ⊆ k xs) : X ⊆ andO (intsOf (xs.map D.int)) k := by
  rw [intsOf_map]; exact h
/-! loops that may be left early, or that turn the source -/
theorem p_whlS {δ : Type} {c : Env → Sta → KB → Res} {b : Env → Sta → KS → Res} {R : δ → Env → Sta → Prop} {t : δ → Option Bool} {f : δ → Option δ}
    (hc : ∀ s env S kb (F : Bool → Res), R s env S → (∀ x, F x ⊆ kb x env S) → andO (t s) F ⊆ c env S kb)
    (hb : ∀ s env S nx (F : δ → Res), R s env S → (∀ s' env' S', R s' env' S' → F s' ⊆ nx env' S') → andO (f s) F ⊆ b env S nx) :
    ∀ {n : Nat} {s : δ} {env : Env} {S : Sta} {k : KS} {g : δ → Option α} {F : α → Res}, R s env S → (∀ s' env' S', R s' env' S' → andO (g s') F ⊆ k env' S') → andO (andO (iterO t f n s) g) F ⊆ whl c b n env S k
  | 0, s, env, S, k, g, F, _, _ => by rw [whl_zero]; exact le_none
  | n + 1, s, env, S, k, g, F, hR, hk => by
    rw [whl_succ, iterO_succ, andO_and, andO_and]
    refine hc s env S _ _ hR fun x => ?_
    cases x with
    | false => exact hk s env S hR
    | true =>
      show (andO (andO (f s) (iterO t f n)) fun a => andO (g a) F) ⊆ b env S fun env S => whl c b n env S k
      rw [andO_and]
      refine hb s env S _ _ hR fun s' env' S' hR' => ?_
      have := p_whlS hc hb (n := n) hR' hk
      rw [andO_and] at this
      exact this
theorem p_forS {δ : Type} {b : D → Env → Sta → KS → Res} {R : δ → Env → Sta → Prop} {e : β → D} {f : δ → β → Option δ}
    (hb : ∀ s x env S nx (F : δ → Res), R s env S → (∀ s' env' S', R s' env' S' → F s' ⊆ nx env' S') → andO (f s x) F ⊆ b (e x) env S nx) :
    ∀ {l : List β} {l' : List D} {s : δ} {env : Env} {S : Sta} {k : KS} {g : δ → Option α} {F : α → Res}, l' = l.map e → R s env S → (∀ s' env' S', R s' env' S' → andO (g s') F ⊆ k env' S') → andO (andO (foldO f l s) g) F ⊆ forGo b l' env S k
  | [], l', s, env, S, k, g, F, hl, hR, hk => by
    subst hl
    rw [List.map_nil, forGo_nil]; exact hk s env S hR
  | x :: r, l', s, env, S, k, g, F, hl, hR, hk => by
    subst hl
    rw [List.map_cons, forGo_cons, foldO_cons, andO_and, andO_and]
    refine hb s x env S _ _ hR fun s' env' S' hR' => ?_
    have := p_forS hb (l := r) rfl hR' hk
    rw [andO_and] at this
    exact this
/-- a turn's end: on, left, or out of the def -/
inductive Ext (α ρ : Type) where
  | go (a : α) | brk (a : α) | out (r : ρ)
noncomputable def Ext.on {α ρ γ : Type} (x : Ext α ρ) (f : α → γ) (g : ρ → γ) : γ := Ext.rec (motive := fun _ => γ) f f g x
noncomputable def Ext.turn {α ρ : Type} (x : Ext α ρ) (f : α → Option (Ext α ρ)) : Option (Ext α ρ) := Ext.rec (motive := fun _ => Option (Ext α ρ)) f (fun a => some (.go a)) (fun r => some (.out r)) x
noncomputable def iterX {α ρ : Type} (t : α → Option Bool) (f : α → Option (Ext α ρ)) (n : Nat) : α → Option (Ext α ρ) :=
  Nat.rec (motive := fun _ => α → Option (Ext α ρ)) (fun _ => none) (fun _ ih s => andO (t s) fun b => selB b (andO (f s) fun x => x.turn ih) (some (.go s))) n
noncomputable def foldX {α β ρ : Type} (f : α → β → Option (Ext α ρ)) (l : List β) : α → Option (Ext α ρ) :=
  List.rec (motive := fun _ => α → Option (Ext α ρ)) (fun s => some (.go s)) (fun x _ ih s => andO (f s x) fun y => y.turn ih) l
theorem iterX_succ {α ρ : Type} (t : α → Option Bool) (f : α → Option (Ext α ρ)) (n : Nat) (s : α) : iterX t f (n + 1) s = andO (t s) fun b => selB b (andO (f s) fun x => x.turn (iterX t f n)) (some (.go s)) := rfl
theorem foldX_nil {α β ρ : Type} (f : α → β → Option (Ext α ρ)) (s : α) : foldX f [] s = some (.go s) := rfl
theorem foldX_cons {α β ρ : Type} (f : α → β → Option (Ext α ρ)) (x : β) (l : List β) (s : α) : foldX f (x :: l) s = andO (f s x) fun y => y.turn (foldX f l) := rfl
theorem p_whlX {δ ρ : Type} {c : Env → Sta → KB → Res} {b : Env → Sta → KS → Res} {R : δ → Env → Sta → Prop} {t : δ → Option Bool} {f : δ → Option (Ext δ ρ)} {k : KS} {g : Ext δ ρ → Option α}
    (hc : ∀ s env S kb (F : Bool → Res), R s env S → (∀ x, F x ⊆ kb x env S) → andO (t s) F ⊆ c env S kb)
    (hb : ∀ s env S nx (F' : Ext δ ρ → Res), R s env S → (∀ s' env' S', R s' env' S' → F' (.go s') ⊆ nx env' S') → (∀ s' env' S', R s' env' S' → F' (.brk s') ⊆ k env' S') → (∀ r, F' (.out r) ⊆ andO (g (.out r)) F) → andO (f s) F' ⊆ b env S nx)
    (hk : ∀ s' env' S', R s' env' S' → andO (g (.go s')) F ⊆ k env' S') :
    ∀ {n : Nat} {s : δ} {env : Env} {S : Sta}, R s env S → andO (andO (iterX t f n s) g) F ⊆ whl c b n env S k
  | 0, s, env, S, _ => by rw [whl_zero]; exact le_none
  | n + 1, s, env, S, hR => by
    rw [whl_succ, iterX_succ, andO_and, andO_and]
    refine hc s env S _ _ hR fun x => ?_
    cases x with
    | false => exact hk s env S hR
    | true =>
      show (andO (andO (f s) fun x => x.turn (iterX t f n)) fun a => andO (g a) F) ⊆ b env S fun env S => whl c b n env S k
      rw [andO_and]
      refine hb s env S _ _ hR (fun s' env' S' hR' => ?_) (fun s' env' S' hR' => hk s' env' S' hR') fun r => le_rfl
      have := p_whlX hc hb hk (n := n) hR'
      rw [andO_and] at this
      exact this
theorem p_forX {δ ρ : Type} {b : D → Env → Sta → KS → Res} {R : δ → Env → Sta → Prop} {e : β → D} {f : δ → β → Option (Ext δ ρ)} {k : KS} {g : Ext δ ρ → Option α}
    (hb : ∀ s x env S nx (F' : Ext δ ρ → Res), R s env S → (∀ s' env' S', R s' env' S' → F' (.go s') ⊆ nx env' S') → (∀ s' env' S', R s' env' S' → F' (.brk s') ⊆ k env' S') → (∀ r, F' (.out r) ⊆ andO (g (.out r)) F) → andO (f s x) F' ⊆ b (e x) env S nx)
    (hk : ∀ s' env' S', R s' env' S' → andO (g (.go s')) F ⊆ k env' S') :
    ∀ {l : List β} {l' : List D} {s : δ} {env : Env} {S : Sta}, l' = l.map e → R s env S → andO (andO (foldX f l s) g) F ⊆ forGo b l' env S k
  | [], l', s, env, S, hl, hR => by
    subst hl
    rw [List.map_nil, forGo_nil]; exact hk s env S hR
  | x :: r, l', s, env, S, hl, hR => by
    subst hl
    rw [List.map_cons, forGo_cons, foldX_cons, andO_and, andO_and]
    refine hb s x env S _ _ hR (fun s' env' S' hR' => ?_) (fun s' env' S' hR' => hk s' env' S' hR') fun r => le_rfl
    have := p_forX hb hk (l := r) rfl hR'
    rw [andO_and] at this
    exact this
theorem p_lc0 {turn : D → List D → Env → Sta → (List D → Env → Sta → Res) → Res} {env : Env} {S : Sta} {e : β → D} {e' : γ → D} {f : β → Option (Option γ)}
    (ht : ∀ x acc (k : List D → Env → Sta → Res) (F : Option γ → Res), (∀ y, F (some y) ⊆ if acc.length < LINE then k (acc ++ [e' y]) env S else none) → F none ⊆ k acc env S → andO (f x) F ⊆ turn (e x) acc env S k) :
    ∀ (l : List β) (acc : List D) (k : KDs) (g : List γ → Res), (∀ ys, g ys ⊆ k (acc ++ ys.map e') env S) → andO (lcO f l acc.length) g ⊆ lcGo turn (l.map e) acc env S k
  | [], acc, k, g, hk => by
    rw [List.map_nil, lcGo_nil]
    show g [] ⊆ _
    have := hk []
    rw [List.map_nil, List.append_nil] at this
    exact this
  | x :: r, acc, k, g, hk => by
    rw [List.map_cons, lcGo_cons]
    show andO (andO (f x) _) g ⊆ _
    rw [andO_and]
    refine ht x acc _ _ (fun y => ?_) ?_
    · show andO (if acc.length < LINE then andO (lcO f r (acc.length + 1)) fun r => some (y :: r) else none) g ⊆ _
      by_cases h : acc.length < LINE
      · rw [if_pos h, if_pos h, andO_and]
        have := p_lc0 ht r (acc ++ [e' y]) k (fun r => g (y :: r)) (fun ys => by
          have := hk (y :: ys)
          rw [List.map_cons] at this
          rw [List.append_assoc]; exact this)
        rw [List.length_append] at this
        exact this
      · rw [if_neg h, if_neg h]; exact le_none
    · exact p_lc0 ht r acc k g hk
theorem p_lc {turn : D → List D → Env → Sta → (List D → Env → Sta → Res) → Res} {env : Env} {S : Sta} {e : β → D} {e' : γ → D} {f : β → Option (Option γ)} {l : List β} {l' : List D} {k : KDs} {g : List γ → Option α} (hl : l' = l.map e)
    (ht : ∀ x acc (k : List D → Env → Sta → Res) (F : Option γ → Res), (∀ y, F (some y) ⊆ if acc.length < LINE then k (acc ++ [e' y]) env S else none) → F none ⊆ k acc env S → andO (f x) F ⊆ turn (e x) acc env S k)
    (hk : ∀ ys, andO (g ys) F ⊆ k (ys.map e') env S) : andO (andO (lcO f l 0) g) F ⊆ lcGo turn l' [] env S k := by
  subst hl
  rw [andO_and]
  exact p_lc0 ht l [] k _ hk
theorem fn_go {T : Tab} {n ps : Nat} {b : List Sm} {ds : List D} {S : Sta} {X : Res} (h : ds.length = ps) (hx : X ⊆ exs T b (initE n ds) S ⟨fun _ S => some (.val .non, S), fun rv S => some (rv, S), fun _ _ => none, fun _ _ => none⟩) : X ⊆ fnOf T n ps b ds S := by
  unfold fnOf
  rw [if_pos h]; exact hx
/-! == of data -/
structure EqOk {α : Type} [DecidableEq α] (n : Nat) (e : α → D) : Prop where
  ft : ∀ a, fit n (e a) = true
  eq : ∀ a b, PyData.eqv (e a).py (e b).py = decide (a = b)
  sm : ∀ a b, same (e a) (e b) = decide (a = b)
theorem bdec {p q : Prop} [Decidable p] [Decidable q] (h : p ↔ q) : decide p = decide q := by
  by_cases c : p
  · rw [decide_eq_true c, decide_eq_true (h.mp c)]
  · rw [decide_eq_false c, decide_eq_false fun z => c (h.mpr z)]
theorem band {p q r : Prop} [Decidable p] [Decidable q] [Decidable r] (h : r ↔ p ∧ q) : (decide p && decide q) = decide r := by
  rw [bdec h]; exact (Bool.decide_and p q).symm
theorem eqOk_int (n : Nat) : EqOk n D.int := ⟨fun a => by cases n <;> rfl, fun a b => by
  show (a == b) = decide (a = b)
  rfl, fun a b => rfl⟩
theorem eqOk_bl (n : Nat) : EqOk n D.bl := ⟨fun a => by cases n <;> rfl, fun a b => by cases a <;> cases b <;> rfl, fun a b => by cases a <;> cases b <;> rfl⟩
theorem eqOk_1 {A : Type} [DecidableEq A] {n : Nat} {a : A → D} (ha : EqOk n a) : EqOk (n + 1) (e1 a) := ⟨fun p => by
  show (fit n (a p) && true) = true
  rw [ha.ft]; rfl, fun p q => by
  show (PyData.eqv (a p).py (a q).py && true) = decide (p = q)
  rw [ha.eq, Bool.and_true], fun p q => by
  show (same (a p) (a q) && true) = decide (p = q)
  rw [ha.sm, Bool.and_true]⟩
theorem eqOk_2 {A B : Type} [DecidableEq A] [DecidableEq B] {n : Nat} {a : A → D} {b : B → D} (ha : EqOk n a) (hb : EqOk n b) : EqOk (n + 1) (e2 a b) := ⟨fun p => by
  show (fit n (a p.1) && (fit n (b p.2) && true)) = true
  rw [ha.ft, hb.ft]; rfl, fun p q => by
  show (PyData.eqv (a p.1).py (a q.1).py && (PyData.eqv (b p.2).py (b q.2).py && true)) = decide (p = q)
  rw [ha.eq, hb.eq, Bool.and_true]
  exact band ⟨fun h => by rw [h]; exact ⟨rfl, rfl⟩, fun h => Prod.ext h.1 h.2⟩, fun p q => by
  show (same (a p.1) (a q.1) && (same (b p.2) (b q.2) && true)) = decide (p = q)
  rw [ha.sm, hb.sm, Bool.and_true]
  exact band ⟨fun h => by rw [h]; exact ⟨rfl, rfl⟩, fun h => Prod.ext h.1 h.2⟩⟩
theorem eqOk_3 {A B C : Type} [DecidableEq A] [DecidableEq B] [DecidableEq C] {n : Nat} {a : A → D} {b : B → D} {c : C → D} (ha : EqOk n a) (hb : EqOk n b) (hc : EqOk n c) : EqOk (n + 1) (e3 a b c) := ⟨fun p => by
  show (fit n (a p.1) && (fit n (b p.2.1) && (fit n (c p.2.2) && true))) = true
  rw [ha.ft, hb.ft, hc.ft]; rfl, fun p q => by
  show (PyData.eqv (a p.1).py (a q.1).py && (PyData.eqv (b p.2.1).py (b q.2.1).py && (PyData.eqv (c p.2.2).py (c q.2.2).py && true))) = decide (p = q)
  rw [ha.eq, hb.eq, hc.eq, Bool.and_true, band (r := p.2 = q.2) ⟨fun h => by rw [h]; exact ⟨rfl, rfl⟩, fun h => Prod.ext h.1 h.2⟩]
  exact band ⟨fun h => by rw [h]; exact ⟨rfl, rfl⟩, fun h => Prod.ext h.1 h.2⟩, fun p q => by
  show (same (a p.1) (a q.1) && (same (b p.2.1) (b q.2.1) && (same (c p.2.2) (c q.2.2) && true))) = decide (p = q)
  rw [ha.sm, hb.sm, hc.sm, Bool.and_true, band (r := p.2 = q.2) ⟨fun h => by rw [h]; exact ⟨rfl, rfl⟩, fun h => Prod.ext h.1 h.2⟩]
  exact band ⟨fun h => by rw [h]; exact ⟨rfl, rfl⟩, fun h => Prod.ext h.1 h.2⟩⟩
theorem eqOk_L {A : Type} [DecidableEq A] {n : Nat} {a : A → D} (ha : EqOk n a) : EqOk (n + 1) (eL a) := ⟨fun l => by
  show fits n (l.map a) = true
  induction l with
  | nil => cases n <;> rfl
  | cons x r ih =>
    show (fit n (a x) && fits n (r.map a)) = true
    rw [ha.ft, ih]; rfl, fun l => by
  show ∀ m, PyData.eqvAll (pys (l.map a)) (pys (m.map a)) = decide (l = m)
  induction l with
  | nil =>
    intro m
    cases m with
    | nil => rfl
    | cons y q => rfl
  | cons x r ih =>
    intro m
    cases m with
    | nil => rfl
    | cons y q =>
      show (PyData.eqv (a x).py (a y).py && PyData.eqvAll (pys (r.map a)) (pys (q.map a))) = _
      rw [ha.eq, ih]
      exact band ⟨fun h => by cases h; exact ⟨rfl, rfl⟩, fun h => by rw [h.1, h.2]⟩, fun l => by
  show ∀ m, sames (l.map a) (m.map a) = decide (l = m)
  induction l with
  | nil =>
    intro m
    cases m with
    | nil => rfl
    | cons y q => rfl
  | cons x r ih =>
    intro m
    cases m with
    | nil => rfl
    | cons y q =>
      show (same (a x) (a y) && sames (r.map a) (q.map a)) = _
      rw [ha.sm, ih]
      exact band ⟨fun h => by cases h; exact ⟨rfl, rfl⟩, fun h => by rw [h.1, h.2]⟩⟩
theorem eqOk_str (n : Nat) : EqOk n D.str := ⟨fun a => by cases n <;> rfl, fun a b => by
  show (a == b) = decide (a = b)
  rfl, fun a b => rfl⟩
theorem eqOk_T {A : Type} [DecidableEq A] {n : Nat} {a : A → D} (ha : EqOk n a) : EqOk (n + 1) (eT a) := ⟨fun l => (eqOk_L ha).ft l, fun l m => (eqOk_L ha).eq l m, fun l m => (eqOk_L ha).sm l m⟩
theorem in_fits [DecidableEq β] {e : β → D} (he : EqOk 60 e) : ∀ ys : List β, fits 60 (ys.map e) = true
  | [] => rfl
  | y :: r => by
    show (fit 60 (e y) && fits 60 (r.map e)) = true
    rw [he.ft, in_fits he r]; rfl
theorem in_any [DecidableEq β] {e : β → D} (he : EqOk 60 e) (x : β) : ∀ ys : List β, ((ys.map e).any fun y => PyData.eqv y.py (e x).py) = ys.any fun y => decide (y = x)
  | [] => rfl
  | y :: r => by rw [List.map_cons, List.any_cons, List.any_cons, in_any he x r, he.eq]
theorem p_in [DecidableEq β] {e : β → D} (he : EqOk 60 e) {x : β} {ys : List β} {k : Bool → Res} {X : Res} (h : X ⊆ k (ys.any fun y => decide (y = x))) : X ⊆ inR (e x) (ys.map e) k := by
  rw [inR_eq, he.ft, in_fits he, in_any he]
  exact h
theorem p_inT [DecidableEq β] {e : β → D} (he : EqOk 60 e) {x : β} {ys : List β} {k : Bool → Res} {X : Res} (h : X ⊆ k (ys.any fun y => decide (y = x))) : X ⊆ inT (e x) (ys.map e) k := by
  have := p_in he (x := x) (ys := ys) (k := k) (X := X) h
  rw [inR_eq] at this
  rw [inT_eq]
  exact this
theorem p_inTk [DecidableEq β] {e : β → D} (he : EqOk 60 e) {x : β} {ys : List β} {c : Bool} {k : Bool → Res} {X : Res} (hc : (ys.any fun y => decide (y = x)) = c) (h : X ⊆ k c) : X ⊆ inT (e x) (ys.map e) k := p_inT he (by rw [hc]; exact h)
/-- what may be shown, of typed values, fast -/
structure RkOk {α : Type} (e : α → D) (f : α → Bool) (z : α → Nat) : Prop where
  ok : ∀ a, rok (e a) = f a
  bk : ∀ a, blk (e a) = z a
noncomputable def rkI (i : Int) : Bool := Nat.ble (Nat.log2 i.natAbs) 1919
def rk1 {α : Type} (_ : α) : Bool := true
def rz0 {α : Type} (_ : α) : Nat := 0
def rkS (x : Str) : Bool := x.cps.toList.all fun c => decide (c < 16 ^ 8)
def rzS (x : Str) : Nat := x.cps.size
noncomputable def rkL {α : Type} (f : α → Bool) (l : List α) : Bool := List.rec (motive := fun _ => Bool) true (fun x _ ih => Bool.rec (motive := fun _ => Bool) false ih (f x)) l
noncomputable def rzL {α : Type} (z : α → Nat) (l : List α) : Nat := List.rec (motive := fun _ => Nat) 0 (fun x _ ih => Nat.add (Nat.add (z x) 1) ih) l
def rk2 {α β : Type} (f : α → Bool) (g : β → Bool) (p : α × β) : Bool := f p.1 && g p.2
def rz2 {α β : Type} (f : α → Nat) (g : β → Nat) (p : α × β) : Nat := f p.1 + 1 + (g p.2 + 1)
def rk3 {α β γ : Type} (f : α → Bool) (g : β → Bool) (h : γ → Bool) (p : α × β × γ) : Bool := f p.1 && (g p.2.1 && h p.2.2)
def rz3 {α β γ : Type} (f : α → Nat) (g : β → Nat) (h : γ → Nat) (p : α × β × γ) : Nat := f p.1 + 1 + (g p.2.1 + 1 + (h p.2.2 + 1))
theorem rk_int : RkOk D.int rkI rz0 := ⟨fun a => by simp only [rok]; rfl, fun a => by simp only [blk]; rfl⟩
theorem rk_bl : RkOk D.bl rk1 rz0 := ⟨fun a => by simp only [rok]; rfl, fun a => by simp only [blk]; rfl⟩
theorem rk_str : RkOk D.str rkS rzS := ⟨fun a => by simp only [rok]; rfl, fun a => by simp only [blk]; rfl⟩
theorem rk_roks {e : α → D} {f : α → Bool} {z : α → Nat} (h : RkOk e f z) (l : List α) : roks (l.map e) = rkL f l := by
  induction l with
  | nil => rw [List.map_nil, roks]; rfl
  | cons x r ih =>
    rw [List.map_cons, roks, ih, h.ok]
    show (f x && rkL f r) = Bool.rec (motive := fun _ => Bool) false (rkL f r) (f x)
    cases f x <;> rfl
theorem rk_blks {e : α → D} {f : α → Bool} {z : α → Nat} (h : RkOk e f z) (l : List α) : blks (l.map e) = rzL z l := by
  induction l with
  | nil => rw [List.map_nil, blks]; rfl
  | cons x r ih =>
    rw [List.map_cons, blks, ih, h.bk]
    rfl
theorem rk_L {e : α → D} {f : α → Bool} {z : α → Nat} (h : RkOk e f z) : RkOk (eL e) (rkL f) (rzL z) := ⟨fun l => by
  unfold eL
  rw [rok, rk_roks h], fun l => by
  unfold eL
  rw [blk, rk_blks h]⟩
theorem rk_T {e : α → D} {f : α → Bool} {z : α → Nat} (h : RkOk e f z) : RkOk (eT e) (rkL f) (rzL z) := ⟨fun l => by
  unfold eT
  rw [rok, rk_roks h], fun l => by
  unfold eT
  rw [blk, rk_blks h]⟩
theorem rk_2 {e : α → D} {e' : β → D} {f : α → Bool} {g : β → Bool} {z : α → Nat} {y : β → Nat} (h : RkOk e f z) (h' : RkOk e' g y) : RkOk (e2 e e') (rk2 f g) (rz2 z y) := ⟨fun p => by
  unfold e2 rk2
  rw [rok, roks, roks, roks, h.ok, h'.ok, Bool.and_true], fun p => by
  unfold e2 rz2
  rw [blk, blks, blks, blks, h.bk, h'.bk, Nat.add_zero]⟩
theorem rk_3 {e : α → D} {e' : β → D} {e'' : γ → D} {f : α → Bool} {g : β → Bool} {k : γ → Bool} {z : α → Nat} {y : β → Nat} {w : γ → Nat} (h : RkOk e f z) (h' : RkOk e' g y) (h'' : RkOk e'' k w) : RkOk (e3 e e' e'') (rk3 f g k) (rz3 z y w) := ⟨fun p => by
  unfold e3 rk3
  rw [rok, roks, roks, roks, roks, h.ok, h'.ok, h''.ok, Bool.and_true], fun p => by
  unfold e3 rz3
  rw [blk, blks, blks, blks, blks, h.bk, h'.bk, h''.bk, Nat.add_zero]⟩
theorem p_repr [DecidableEq β] {e : β → D} (he : EqOk 60 e) {f : β → Bool} {z : β → Nat} (hr : RkOk e f z) {a : β} {k : RV → Res} (h : andO M F ⊆ k (.val (.rep (e a)))) : andO (if (f a && Nat.ble (z a) 8000) = true then M else none) F ⊆ reprR (e a) k := by
  have : reprOk (e a) = (f a && Nat.ble (z a) 8000) := by
    rw [reprOk_eq, he.ft, hr.ok, hr.bk]
    rfl
  unfold reprR
  rw [this]
  split
  · exact h
  · exact le_none
/-- texts of values -/
theorem p_reqr [DecidableEq β] {e : β → D} (he : EqOk 60 e) {a b : β} {k : Bool → Res} (h : andO M F ⊆ k true) : andO (if a = b then M else none) F ⊆ deepR (.rep (e a)) (.rep (e b)) k := by
  rw [deepR_eq]
  show _ ⊆ match (if same (e a) (e b) then some true else none) with
    | some b => k b
    | none => none
  rw [he.sm]
  by_cases c : a = b
  · rw [if_pos c, decide_eq_true c]; exact h
  · rw [if_neg c, decide_eq_false c]; exact le_none
theorem p_eq [DecidableEq β] {e : β → D} (he : EqOk 60 e) {a b : β} {k : Bool → Res} {X : Res} (h : X ⊆ k (decide (a = b))) : X ⊆ deepR (e a) (e b) k := by
  have q : deq (e a) (e b) = some (decide (a = b)) := by
    have z := he.eq a b
    unfold deq
    split
    · next i j h1 h2 =>
      rw [h1, h2] at z
      exact congrArg some z
    · next x y h1 h2 =>
      have f := he.ft a
      rw [h1] at f
      simp [fit] at f
    · rw [he.ft, he.ft, z]; rfl
  unfold deepR
  rw [q]; exact h
theorem p_eqk [DecidableEq β] {e : β → D} (he : EqOk 60 e) {a b : β} {c : Bool} {k : Bool → Res} {X : Res} (hc : decide (a = b) = c) (h : X ⊆ k c) : X ⊆ deepR (e a) (e b) k := p_eq he (by rw [hc]; exact h)
theorem p_cmpk {op : COp} {x y : D} {c : Bool} {k : Bool → Res} {X : Res} (hc : (cmp op x y == some c) = true) (h : X ⊆ k c) : X ⊆ cmpW op x y k := by
  rw [cmpW_eq, eq_of_beq hc]; exact h
end
end Iv
end

section
set_option Elab.async false
set_option linter.all false
set_option autoImplicit false
set_option maxRecDepth 100000
namespace Iv
open PySem L2
/-! ### a law that its IR keeps -/
def LawOk (φ : Fn) : Prop := ∀ ns : List Int, ns.length ≤ 63 → ∃ S', φ [.scr] ⟨ns, none⟩ = some (.val (.bl true), S')
theorem law_sp {K : PySem.W.Frag} {φ : Fn} (h : LawOk φ) {H : Hp} {a : Addr} {ns : List Int} (hl : ns.length ≤ 63) (hO : Only H) (hS : SqL K H a (ns.map V.int)) (E : XK) :
    spD K φ 1 [.ref a] H (fun v _ => v = .bl true) E := by
  obtain ⟨S', e⟩ := h ns hl
  refine ⟨rfl, ⟨fun _ => False, none, a⟩, [.scr], ⟨ns, none⟩, _, .cons .scr .nil, ⟨fun _ z => z.elim, fun _ z => z.elim, fun _ => rfl, (fun s z => by cases z), ?_⟩, e, fun v g' H' st G R => ?_⟩
  · rcases hS with hr | ⟨o, its, n, h1, h2, h3, h4, h5, h6⟩
    · left
      rcases hr with h1 | h1
      · rcases hO a with z | ⟨o, xs, z⟩
        · rw [h1] at z; cases z
        · rw [h1] at z; cases z
      · exact h1
    · right
      exact fun H' => .inr ⟨o, its, n, h1, h2, h3, h4, h5, h6⟩
  · cases R
    rfl
theorem fns_nil {P : Program} {w : World} {K : PySem.W.Frag} {mg : Str → Option Value} {base : Heap} {L : Nat} : ∀ (i : Nat) (y : Str) (φ : Fn), ([] : Tab)[i]? = some (y, φ) → FnAt P w K mg base L y φ := fun i y φ h => by simp at h
theorem fns_cons {P : Program} {w : World} {K : PySem.W.Frag} {mg : Str → Option Value} {base : Heap} {L : Nat} {x : Str} {ψ : Fn} {T : Tab} (h0 : FnAt P w K mg base L x ψ) (h : ∀ (i : Nat) (y : Str) (φ : Fn), T[i]? = some (y, φ) → FnAt P w K mg base L y φ) :
    ∀ (i : Nat) (y : Str) (φ : Fn), ((x, ψ) :: T)[i]? = some (y, φ) → FnAt P w K mg base L y φ
  | 0, y, φ, e => by
    rw [List.getElem?_cons_zero] at e
    cases e
    exact h0
  | i + 1, y, φ, e => h i y φ (by rw [List.getElem?_cons_succ] at e; exact e)
end Iv
end

section
set_option Elab.async false
set_option linter.all false
set_option autoImplicit false
set_option maxRecDepth 100000
namespace Iv
open PySem L2
/-! ### lemmas for plain laws -/
section
variable {α β γ ρ : Type}
theorem mulOk_r {i j : Int} (h : j.natAbs < 18446744073709551616) : mulOk i j = true := by
  unfold mulOk
  simp [h]
theorem mulOk_l {i j : Int} (h : i.natAbs < 18446744073709551616) : mulOk i j = true := by
  unfold mulOk
  simp [h]
theorem divOk_small {j : Int} (h0 : j ≠ 0) (h : j.natAbs < 1073741824) : divOk j = true := by
  unfold divOk
  simp [h0, h]
theorem rgOk_small {i : Int} (h0 : 0 ≤ i) (h : i < 4611686018427387904) : rgOk i = true := by
  unfold rgOk
  simp only [Bool.and_eq_true, decide_eq_true_eq]
  omega
theorem iterO_inv {t : α → Option Bool} {f : α → Option α} (P : α → Prop) (m : α → Nat) (h : ∀ s, P s → ∃ b, t s = some b ∧ (b = true → ∃ s', f s = some s' ∧ P s' ∧ m s' < m s)) :
    ∀ (n : Nat) (s : α), P s → m s < n → ∃ s', iterO t f n s = some s' ∧ P s' ∧ t s' = some false
  | 0, s, _, hm => absurd hm (Nat.not_lt_zero _)
  | n + 1, s, hs, hm => by
    obtain ⟨b, hb, k⟩ := h s hs
    rw [iterO_succ, hb]
    cases b with
    | false => exact ⟨s, rfl, hs, hb⟩
    | true =>
      obtain ⟨s', e, hs', hm'⟩ := k rfl
      show ∃ s'', andO (f s) (iterO t f n) = some s'' ∧ _
      rw [e]
      exact iterO_inv P m h n s' hs' (by omega)
theorem foldO_inv {f : α → β → Option α} (P : α → Prop) : ∀ (l : List β) (s : α), (∀ s x, x ∈ l → P s → ∃ s', f s x = some s' ∧ P s') → P s → ∃ s', foldO f l s = some s' ∧ P s'
  | [], s, _, hs => ⟨s, rfl, hs⟩
  | x :: r, s, h, hs => by
    obtain ⟨s', e, hs'⟩ := h s x (List.mem_cons_self ..) hs
    rw [foldO_cons, e]
    exact foldO_inv P r s' (fun s x hx => h s x (List.mem_cons_of_mem _ hx)) hs'
theorem foldX_inv {f : α → β → Option (Ext α ρ)} (P : α → Prop) : ∀ (l : List β) (s : α), (∀ s x, x ∈ l → P s → ∃ s', f s x = some (.go s') ∧ P s') → P s → ∃ s', foldX f l s = some (.go s') ∧ P s'
  | [], s, _, hs => ⟨s, rfl, hs⟩
  | x :: r, s, h, hs => by
    obtain ⟨s', e, hs'⟩ := h s x (List.mem_cons_self ..) hs
    rw [foldX_cons, e]
    exact foldX_inv P r s' (fun s x hx => h s x (List.mem_cons_of_mem _ hx)) hs'
theorem foldO_congr {f g : α → β → Option α} : ∀ (l : List β) (s : α), (∀ s x, x ∈ l → f s x = g s x) → foldO f l s = foldO g l s
  | [], s, _ => rfl
  | x :: r, s, h => by
    rw [foldO_cons, foldO_cons, h s x (List.mem_cons_self ..)]
    congr 1
    funext s'
    exact foldO_congr r s' fun s y hy => h s y (List.mem_cons_of_mem _ hy)
theorem mem_upTo : ∀ (n : Nat) (lo x : Int), x ∈ upTo lo n → lo ≤ x ∧ x < lo + n
  | 0, lo, x, h => by cases h
  | n + 1, lo, x, h => by
    rw [upTo_succ] at h
    rcases List.mem_cons.mp h with h | h
    · subst h; constructor <;> omega
    · have := mem_upTo n (lo + 1) x h
      constructor <;> omega
theorem upTo_len : ∀ (n : Nat) (lo : Int), (upTo lo n).length = n
  | 0, _ => rfl
  | n + 1, lo => by rw [upTo_succ, List.length_cons, upTo_len n]
theorem lcO_all {f : β → Option (Option γ)} (g : β → γ) : ∀ (l : List β) (n : Nat), (∀ x, x ∈ l → f x = some (some (g x))) → n + l.length ≤ LINE → lcO f l n = some (l.map g)
  | [], _, _, _ => rfl
  | x :: r, n, h, hl => by
    rw [List.length_cons] at hl
    show andO (f x) _ = _
    rw [h x (List.mem_cons_self ..)]
    show (if n < LINE then andO (lcO f r (n + 1)) fun q => some (g x :: q) else none) = _
    rw [if_pos (by omega), lcO_all g r (n + 1) (fun y hy => h y (List.mem_cons_of_mem _ hy)) (by omega)]
    rfl
theorem lcO_filter {f : β → Option (Option γ)} (p : β → Bool) (g : β → γ) : ∀ (l : List β) (n : Nat), (∀ x, x ∈ l → f x = some (if p x then some (g x) else none)) → n + l.length ≤ LINE → lcO f l n = some ((l.filter p).map g)
  | [], _, _, _ => rfl
  | x :: r, n, h, hl => by
    rw [List.length_cons] at hl
    show andO (f x) _ = _
    rw [h x (List.mem_cons_self ..)]
    have h' := fun y hy => h y (List.mem_cons_of_mem x hy)
    by_cases c : p x = true
    · rw [if_pos c, List.filter_cons_of_pos c]
      show (if n < LINE then andO (lcO f r (n + 1)) fun q => some (g x :: q) else none) = _
      rw [if_pos (by omega), lcO_filter p g r (n + 1) h' (by omega)]
      rfl
    · rw [if_neg c, List.filter_cons_of_neg c]
      show lcO f r n = _
      exact lcO_filter p g r n h' (by omega)
theorem fmodI_pos {a b : Int} (h : 0 < b) : fmodI a b = a % b := Int.fmod_eq_emod_of_nonneg a (by omega)
theorem fdivI_pos {a b : Int} (h : 0 < b) : fdivI a b = a / b := Int.fdiv_eq_ediv_of_nonneg a (by omega)
theorem fmodI_ge {a b : Int} (h : 0 < b) : 0 ≤ fmodI a b := by rw [fmodI_pos h]; exact Int.emod_nonneg a (by omega)
theorem fmodI_lt {a b : Int} (h : 0 < b) : fmodI a b < b := by rw [fmodI_pos h]; exact Int.emod_lt_of_pos a h
theorem fmodI_twice {a b : Int} (h : 0 < b) : fmodI (fmodI a b) b = fmodI a b := by
  rw [fmodI_pos h, fmodI_pos h, Int.emod_emod_of_dvd _ (Int.dvd_refl b)]
theorem cutL_drop (xs : List β) (i : Nat) (h : i ≤ xs.length) : cutL xs (some (i : Int)) none = xs.drop i := by
  unfold cutL
  rw [HT.sIx_nat, HT.sIx_none, Nat.min_eq_left h, List.take_of_length_le (by rw [List.length_drop]; omega)]
/-! fast counts for the kernel -/
noncomputable def cntN (x : Nat) (l : List Nat) : Nat := List.rec (motive := fun _ => Nat) 0 (fun y _ ih => Bool.rec (motive := fun _ => Nat) ih (ih + 1) (Nat.ble (y + 1) x)) l
noncomputable def invN (l : List Nat) : Nat := List.rec (motive := fun _ => Nat) 0 (fun x r ih => cntN x r + ih) l
noncomputable def rowN (h k n lo : Nat) : List Nat := Nat.rec (motive := fun _ => Nat → List Nat) (fun _ => []) (fun _ ih lo => (h * lo) % k :: ih (lo + 1)) n lo
theorem cntN_eq (x : Nat) : ∀ l : List Nat, cntN x l = ((l.map fun y : Nat => (y : Int)).filter fun y : Int => decide (y < (x : Int))).length
  | [] => rfl
  | y :: r => by
    have ih := cntN_eq x r
    show Bool.rec (motive := fun _ => Nat) (cntN x r) (cntN x r + 1) (Nat.ble (y + 1) x) = _
    rw [List.map_cons]
    by_cases h : y < x
    · rw [List.filter_cons_of_pos (by simpa using h), List.length_cons, ← ih, Nat.ble_eq_true_of_le (Nat.succ_le_of_lt h)]
    · rw [List.filter_cons_of_neg (by simpa using h), ← ih]
      cases e : Nat.ble (y + 1) x with
      | false => rfl
      | true => exact absurd (Nat.le_of_ble_eq_true e) h
theorem rowN_eq (h k : Nat) (hk : 0 < k) : ∀ (n lo : Nat), (rowN h k n lo).map (fun y : Nat => (y : Int)) = (upTo (lo : Int) n).map fun x => fmodI ((h : Int) * x) k
  | 0, _ => rfl
  | n + 1, lo => by
    show (((h * lo) % k :: rowN h k n (lo + 1)).map fun y : Nat => (y : Int)) = _
    rw [upTo_succ, List.map_cons, List.map_cons, rowN_eq h k hk n (lo + 1), fmodI_pos (by omega)]
    congr 1
end
end Iv
end

section
set_option Elab.async false
set_option linter.all false
set_option autoImplicit false
set_option maxRecDepth 100000
namespace Iv
/-! ### fractions as pairs: lowest terms -/
def gcdI (a b : Int) : Int := (Int.gcd a b : Int)
/-- p / q in lowest terms, the bottom above 0 (q not 0) -/
def low (p q : Int) : Int × Int := if 0 < q then (p / gcdI p q, q / gcdI p q) else (-p / gcdI p q, -q / gcdI p q)
theorem gcd_step (a b : Int) : Int.gcd b (a % b) = Int.gcd a b := by
  have h : a % b = a - b * (a / b) := by
    have := Int.emod_add_mul_ediv a b
    omega
  rw [h, Int.gcd_comm a b]
  exact Int.gcd_sub_mul_left_right b a (a / b)
/-- Euclid's loop: two numbers not below 0 -/
theorem euclid_iter {t : Int × Int → Option Bool} {f : Int × Int → Option (Int × Int)} (ht : ∀ a b : Int, 0 ≤ b → t (a, b) = some (decide (0 < b)))
    (hf : ∀ a b : Int, 0 < b → f (a, b) = some (b, fmodI a b)) : ∀ (m n : Nat) (a b : Int), 0 ≤ a → 0 ≤ b → b < 2 ^ m → 2 * m < n → iterO t f n (a, b) = some (gcdI a b, 0) := by
  have step : ∀ (n : Nat) (a b : Int), 0 < b → iterO t f (n + 1) (a, b) = iterO t f n (b, fmodI a b) := fun n a b h => by
    rw [iterO_succ, ht a b (by omega), decide_eq_true h]
    show andO (f (a, b)) (iterO t f n) = _
    rw [hf a b h]; rfl
  have stop : ∀ (n : Nat) (a : Int), 0 ≤ a → iterO t f (n + 1) (a, 0) = some (gcdI a 0, 0) := fun n a ha => by
    rw [iterO_succ, ht a 0 (by omega), decide_eq_false (by omega)]
    show some (a, (0 : Int)) = some (gcdI a 0, 0)
    unfold gcdI
    rw [Int.gcd_zero_right, Int.natAbs_of_nonneg ha]
  have go : ∀ (a b : Int), gcdI b (fmodI a b) = gcdI a b ∨ ¬ 0 < b := fun a b => by
    by_cases h : 0 < b
    · left
      rw [fmodI_pos h]
      unfold gcdI
      rw [gcd_step]
    · exact .inr h
  intro m
  induction m with
  | zero =>
    intro n a b ha hb h1 h2
    have : b = 0 := by
      have : (2 : Int) ^ 0 = 1 := rfl
      omega
    subst this
    obtain ⟨n, rfl⟩ : ∃ k, n = k + 1 := ⟨n - 1, by omega⟩
    exact stop n a ha
  | succ m ih =>
    intro n a b ha hb h1 h2
    obtain ⟨n, rfl⟩ : ∃ k, n = k + 1 := ⟨n - 1, by omega⟩
    by_cases h : 0 < b
    · rw [step n a b h]
      have l := fmodI_lt (a := a) h
      have g := fmodI_ge (a := a) h
      have e := (go a b).resolve_right (fun z => z h)
      by_cases c : fmodI a b < 2 ^ m
      · rw [ih n b (fmodI a b) hb g c (by omega), e]
      · have h' : 0 < fmodI a b := by
          have : (0 : Int) < 2 ^ m := Int.pow_pos (by decide)
          omega
        obtain ⟨n, rfl⟩ : ∃ k, n = k + 1 := ⟨n - 1, by omega⟩
        rw [step n b (fmodI a b) h']
        have e' := (go b (fmodI a b)).resolve_right (fun z => z h')
        have l' : fmodI b (fmodI a b) < 2 ^ m := by
          rw [fmodI_pos h']
          have q1 : 1 ≤ b / fmodI a b := by
            have := Int.ediv_le_ediv h' (Int.le_of_lt l)
            rwa [Int.ediv_self (by omega)] at this
          have q2 := Int.emod_add_mul_ediv b (fmodI a b)
          have q3 : fmodI a b * 1 ≤ fmodI a b * (b / fmodI a b) := Int.mul_le_mul_of_nonneg_left q1 (by omega)
          have q4 : (2 : Int) ^ (m + 1) = 2 ^ m * 2 := Int.pow_succ ..
          omega
        rw [ih n (fmodI a b) (fmodI b (fmodI a b)) g (fmodI_ge h') l' (by omega), e', e]
    · have : b = 0 := by omega
      subst this
      exact stop n a ha
/-- a fraction as the program tells it -/
def ofR (r : Rat) : Int × Int := (r.num, (r.den : Int))
theorem ofR_inj {r s : Rat} : ofR r = ofR s ↔ r = s := by
  constructor
  · intro h
    have h1 := congrArg Prod.fst h
    have h2 := congrArg Prod.snd h
    simp only [ofR] at h1 h2
    exact Rat.ext h1 (by omega)
  · intro h; rw [h]
theorem ofR_pos (r : Rat) : 0 < (ofR r).2 := by
  show (0 : Int) < (r.den : Int)
  have := r.den_pos
  omega
theorem ofR_div (r : Rat) : (((ofR r).1 : Int) : Rat) / (((ofR r).2 : Int) : Rat) = r := by
  show ((r.num : Int) : Rat) / (((r.den : Int)) : Rat) = r
  rw [← Rat.divInt_eq_div]
  exact Rat.num_divInt_den r
theorem low_eq (p q : Int) (hq : q ≠ 0) : low p q = ofR ((p : Rat) / (q : Rat)) := by
  unfold low ofR gcdI
  rw [← Rat.divInt_eq_div, Rat.num_divInt, Rat.den_divInt, if_neg hq, Int.gcd_comm q p]
  have hn : ((q.natAbs / Int.gcd p q : Nat) : Int) = (q.natAbs : Int) / (Int.gcd p q : Int) := Int.natCast_ediv ..
  rw [hn]
  by_cases h : 0 < q
  · rw [if_pos h, Int.sign_eq_one_of_pos h, Int.one_mul, Int.natAbs_of_nonneg (by omega)]
  · rw [if_neg h, Int.sign_eq_neg_one_of_neg (by omega)]
    have : (q.natAbs : Int) = -q := by omega
    rw [this, Int.neg_mul, Int.one_mul]
theorem gcdI_pos {p q : Int} (hq : q ≠ 0) : 0 < gcdI p q := by
  unfold gcdI
  have := Int.gcd_pos_iff.mpr (Or.inr hq : p ≠ 0 ∨ q ≠ 0)
  omega
theorem gcdI_le {p q : Int} (hq : q ≠ 0) : gcdI p q ≤ (q.natAbs : Int) := by
  unfold gcdI
  have := Nat.le_of_dvd (by omega) (Int.gcd_dvd_natAbs_right p q)
  omega
theorem divOk_gcd {p q : Int} {m : Nat} (hm : m ≤ 8000) (hq : q ≠ 0) (hb : q.natAbs < 2 ^ m) : divOk (gcdI p q) = true := by
  have h1 := gcdI_pos (p := p) hq
  have h2 := gcdI_le (p := p) hq
  have h3 : (gcdI p q).natAbs < 2 ^ m := Nat.lt_of_le_of_lt (by omega) hb
  have h4 : (gcdI p q).natAbs.log2 < m := (Nat.log2_lt (by omega)).mpr h3
  unfold divOk
  rw [decide_eq_true h1, decide_eq_true (show (gcdI p q).natAbs.log2 < 9000 by omega)]
  rfl
theorem gcdI_abs (p q : Int) : gcdI (p.natAbs : Int) (q.natAbs : Int) = gcdI p q := by
  unfold gcdI Int.gcd
  rw [Int.natAbs_natCast, Int.natAbs_natCast]
end Iv
end

section
set_option Elab.async false
set_option linter.all false
set_option autoImplicit false
set_option maxRecDepth 100000
namespace Iv
/-! ### sums of whole parts, plain numbers -/
def sm (f : Nat → Int) : Nat → Int
  | 0 => 0
  | n + 1 => sm f n + f n
theorem sm_congr {f g : Nat → Int} : ∀ n : Nat, (∀ i, i < n → f i = g i) → sm f n = sm g n
  | 0, _ => rfl
  | n + 1, h => by
    show sm f n + f n = sm g n + g n
    rw [sm_congr n fun i hi => h i (by omega), h n (by omega)]
theorem sm_add (f g : Nat → Int) : ∀ n : Nat, sm (fun i => f i + g i) n = sm f n + sm g n
  | 0 => rfl
  | n + 1 => by
    show sm (fun i => f i + g i) n + (f n + g n) = (sm f n + f n) + (sm g n + g n)
    rw [sm_add f g n]
    omega
theorem sm_head (f : Nat → Int) : ∀ n : Nat, sm f (n + 1) = f 0 + sm (fun i => f (i + 1)) n
  | 0 => by
    show (0 : Int) + f 0 = f 0 + 0
    omega
  | n + 1 => by
    show sm f (n + 1) + f (n + 1) = f 0 + (sm (fun i => f (i + 1)) n + f (n + 1))
    rw [sm_head f n]
    omega
theorem sm_rev (f : Nat → Int) : ∀ n : Nat, sm f n = sm (fun i => f (n - 1 - i)) n
  | 0 => rfl
  | n + 1 => by
    rw [sm_head (fun i => f (n + 1 - 1 - i)) n]
    show sm f n + f n = f (n + 1 - 1 - 0) + _
    have e : sm (fun i => f (n + 1 - 1 - (i + 1))) n = sm (fun i => f (n - 1 - i)) n := sm_congr n fun i hi => by
      have : n + 1 - 1 - (i + 1) = n - 1 - i := by omega
      rw [this]
    rw [e, ← sm_rev f n]
    have : n + 1 - 1 - 0 = n := by omega
    rw [this]
    omega
theorem sm_one : ∀ n : Nat, sm (fun _ => 1) n = n
  | 0 => rfl
  | n + 1 => by
    show sm (fun _ => 1) n + 1 = _
    rw [sm_one n]; omega
def fs (a b m : Int) (n : Nat) : Int := sm (fun i => (a * i + b) / m) n
theorem tri_succ (n : Int) : (n + 1) * (n + 1 - 1) / 2 = n * (n - 1) / 2 + n := by
  have e : (n + 1) * (n + 1 - 1) = n * (n - 1) + n * 2 := by grind
  rw [e, Int.add_mul_ediv_right _ _ (by decide)]
theorem fs_red (a b m : Int) (hm : 0 < m) : ∀ n : Nat, fs a b m n = a / m * ((n : Int) * ((n : Int) - 1) / 2) + b / m * n + fs (a % m) (b % m) m n
  | 0 => by
    show (0 : Int) = a / m * ((0 : Int) * ((0 : Int) - 1) / 2) + b / m * (0 : Int) + 0
    rw [Int.zero_mul, Int.mul_zero]
    simp
  | n + 1 => by
    show fs a b m n + (a * n + b) / m = _ + (fs (a % m) (b % m) m n + (a % m * n + b % m) / m)
    rw [fs_red a b m hm n]
    have e1 := Int.emod_add_mul_ediv a m
    have e2 := Int.emod_add_mul_ediv b m
    have e3 : a * (n : Int) + b = (a % m * n + b % m) + m * (a / m * n + b / m) := by grind
    rw [e3, Int.add_mul_ediv_left _ _ (by omega)]
    have e4 : ((n + 1 : Nat) : Int) = (n : Int) + 1 := by omega
    rw [e4, tri_succ]
    grind
theorem fs_swap (a b m : Int) (ha : 0 < a) (ham : a < m) (hb : 0 ≤ b) (hbm : b < m) : ∀ n : Nat, fs a b m n + fs m (m - b + a - 1) a ((a * n + b) / m).toNat = n * ((a * n + b) / m)
  | 0 => by
    have e : (a * ((0 : Nat) : Int) + b) / m = 0 := by
      have : a * ((0 : Nat) : Int) + b = b := by simp
      rw [this]
      exact Int.ediv_eq_zero_of_lt hb hbm
    rw [e]
    rfl
  | n + 1 => by
    have ih := fs_swap a b m ha ham hb hbm n
    have hm : 0 < m := by omega
    have an : 0 ≤ a * (n : Int) := Int.mul_nonneg (by omega) (by omega)
    have ec : a * ((n + 1 : Nat) : Int) + b = a * (n : Int) + b + a := by
      rw [Int.natCast_add, Int.mul_add]
      omega
    rw [ec]
    show fs a b m n + (a * (n : Int) + b) / m + _ = _
    have b1 := Int.mul_ediv_self_le (x := a * (n : Int) + b) (k := m) (by omega)
    have b2 := Int.lt_mul_ediv_self_add (x := a * (n : Int) + b) (k := m) hm
    have b3 := Int.mul_ediv_self_le (x := a * (n : Int) + b + a) (k := m) (by omega)
    have b4 := Int.lt_mul_ediv_self_add (x := a * (n : Int) + b + a) (k := m) hm
    have p0 : 0 ≤ (a * (n : Int) + b) / m := Int.ediv_nonneg (by omega) (by omega)
    generalize (a * (n : Int) + b) / m = e at *
    generalize (a * (n : Int) + b + a) / m = e' at *
    have c1 : e < e' + 1 := by
      refine Int.lt_of_mul_lt_mul_left (a := m) ?_ (by omega)
      rw [Int.mul_add, Int.mul_one]
      omega
    have c2 : e' < e + 2 := by
      refine Int.lt_of_mul_lt_mul_left (a := m) ?_ (by omega)
      rw [Int.mul_add]
      omega
    have hcase : e' = e ∨ e' = e + 1 := by omega
    rcases hcase with rfl | rfl
    · rw [Int.natCast_add, Int.add_mul]
      omega
    · have et : (e + 1).toNat = e.toNat + 1 := by omega
      rw [et]
      show fs a b m n + e + (fs m (m - b + a - 1) a e.toNat + (m * ((e.toNat : Nat) : Int) + (m - b + a - 1)) / a) = _
      have ee : ((e.toNat : Nat) : Int) = e := by omega
      rw [ee]
      rw [Int.mul_add, Int.mul_one] at b3
      have x1 : (n : Int) + 1 ≤ (m * e + (m - b + a - 1)) / a := by
        rw [Int.le_ediv_iff_mul_le ha, Int.add_mul, Int.mul_comm (n : Int) a]
        omega
      have x2 : (m * e + (m - b + a - 1)) / a < (n : Int) + 2 := by
        rw [Int.ediv_lt_iff_lt_mul ha, Int.add_mul, Int.mul_comm (n : Int) a]
        omega
      have x3 : (m * e + (m - b + a - 1)) / a = (n : Int) + 1 := by omega
      rw [x3, Int.natCast_add, Int.add_mul, Int.mul_add, Int.mul_add]
      omega
theorem fdiff (y b : Int) (hb : 0 < b) : y / b - (y - 1) / b = if y % b = 0 then 1 else 0 := by
  have e := Int.emod_add_mul_ediv y b
  have p0 := Int.emod_nonneg y (b := b) (by omega)
  have p1 := Int.emod_lt_of_pos y hb
  generalize y / b = q at *
  generalize y % b = r at *
  by_cases z : r = 0
  · rw [if_pos z]
    have : y - 1 = (b - 1) + b * (q - 1) := by
      rw [Int.mul_sub]
      omega
    rw [this, Int.add_mul_ediv_left _ _ (by omega), Int.ediv_eq_zero_of_lt (by omega) (by omega)]
    omega
  · rw [if_neg z]
    have : y - 1 = (r - 1) + b * q := by omega
    rw [this, Int.add_mul_ediv_left _ _ (by omega), Int.ediv_eq_zero_of_lt (by omega) (by omega)]
    omega
theorem mod_iff {n v b : Int} (hb : 0 < b) (v0 : 0 ≤ v) (v1 : v < b) : (n - v + b) % b = 0 ↔ n % b = v := by
  rw [Int.add_emod_right]
  constructor
  · intro h
    have := (Int.emod_eq_emod_iff_emod_sub_eq_zero (m := n) (n := b) (k := v)).mpr h
    rw [this, Int.emod_eq_of_lt v0 v1]
  · intro h
    refine (Int.emod_eq_emod_iff_emod_sub_eq_zero (m := n) (n := b) (k := v)).mp ?_
    rw [h, Int.emod_eq_of_lt v0 v1]
theorem cntmod (v b : Int) (v0 : 0 ≤ v) (v1 : v < b) : ∀ n : Nat, sm (fun i => if (i : Int) % b = v then 1 else 0) n = ((n : Int) - v + b - 1) / b
  | 0 => by
    show (0 : Int) = _
    rw [Int.ediv_eq_zero_of_lt (by omega) (by omega)]
  | n + 1 => by
    show sm _ n + (if (n : Int) % b = v then 1 else 0) = _
    rw [cntmod v b v0 v1 n]
    have d := fdiff ((n : Int) - v + b) b (by omega)
    have e : ((n + 1 : Nat) : Int) - v + b - 1 = (n : Int) - v + b := by omega
    rw [e]
    by_cases c : (n : Int) % b = v
    · rw [if_pos c]
      rw [if_pos ((mod_iff (by omega) v0 v1).mpr c)] at d
      omega
    · rw [if_neg c]
      rw [if_neg fun z => c ((mod_iff (by omega) v0 v1).mp z)] at d
      omega
theorem cop_dvd {b a x : Int} (g : Int.gcd b a = 1) (h : b ∣ a * x) : b ∣ x := by
  have h2 := Int.natAbs_dvd_natAbs.mpr h
  rw [Int.natAbs_mul] at h2
  exact Int.natAbs_dvd_natAbs.mp (Nat.Coprime.dvd_of_dvd_mul_left g h2)
/-! points under a line a x + b y ≤ c -/
def pu (a b c : Int) : Int := sm (fun x => (c - a * x) / b + 1) (c / a + 1).toNat
def cn (a b c : Int) : Int := sm (fun x => if (c - a * x) % b = 0 then 1 else 0) (c / a + 1).toNat
theorem pu_fs (a b c : Int) (ha : 0 < a) (hb : 0 < b) (hc : 0 ≤ c) : fs a (c - c / a * a + b) b (c / a + 1).toNat = pu a b c := by
  have p : 0 ≤ c / a := Int.ediv_nonneg hc (by omega)
  unfold fs pu
  rw [sm_rev]
  refine sm_congr _ fun i hi => ?_
  have e1 : (((c / a + 1).toNat - 1 - i : Nat) : Int) = c / a - i := by omega
  rw [e1]
  have e2 : a * (c / a - (i : Int)) + (c - c / a * a + b) = (c - a * i) + 1 * b := by
    rw [Int.mul_sub, Int.mul_comm a (c / a)]
    omega
  rw [e2, Int.add_mul_ediv_right _ _ (by omega)]
theorem pu_zero (a b : Int) (ha : 0 < a) (hb : 0 < b) : pu a b 0 = 1 ∧ cn a b 0 = 1 := by
  have e : ((0 : Int) / a + 1).toNat = 1 := by rw [Int.zero_ediv]; rfl
  unfold pu cn
  rw [e]
  constructor
  · show (0 : Int) + ((0 - a * 0) / b + 1) = 1
    rw [Int.mul_zero, Int.sub_zero, Int.zero_ediv]
    rfl
  · show (0 : Int) + (if (0 - a * 0) % b = 0 then 1 else 0) = 1
    rw [Int.mul_zero, Int.sub_zero, Int.zero_emod]
    rfl
theorem pu_step (a b c : Int) (ha : 0 < a) (hb : 0 < b) (hc : 0 < c) : pu a b c - pu a b (c - 1) = cn a b c := by
  have key : pu a b (c - 1) = sm (fun x => (c - 1 - a * x) / b + 1) (c / a + 1).toNat := by
    unfold pu
    have d := fdiff c a ha
    have p : 0 ≤ (c - 1) / a := Int.ediv_nonneg (by omega) (by omega)
    by_cases z : c % a = 0
    · rw [if_pos z] at d
      have en : (c / a + 1).toNat = ((c - 1) / a + 1).toNat + 1 := by omega
      rw [en]
      show _ = sm (fun x => (c - 1 - a * x) / b + 1) ((c - 1) / a + 1).toNat + ((c - 1 - a * (((c - 1) / a + 1).toNat : Nat)) / b + 1)
      have e1 : ((((c - 1) / a + 1).toNat : Nat) : Int) = c / a := by omega
      have e2 := Int.emod_add_mul_ediv c a
      have e3 : c - 1 - a * (c / a) = -1 := by omega
      have e4 : (-1 : Int) / b = -1 := by
        have : (-1 : Int) = (b - 1) + b * (-1) := by omega
        rw [this, Int.add_mul_ediv_left _ _ (by omega), Int.ediv_eq_zero_of_lt (by omega) (by omega)]
        omega
      rw [e1, e3, e4]
      omega
    · rw [if_neg z] at d
      have en : (c / a + 1).toNat = ((c - 1) / a + 1).toNat := by omega
      rw [en]
  rw [key]
  have e : pu a b c = sm (fun x => ((c - 1 - a * x) / b + 1) + (if (c - a * x) % b = 0 then 1 else 0)) (c / a + 1).toNat := by
    unfold pu
    refine sm_congr _ fun i _ => ?_
    have d := fdiff (c - a * i) b hb
    have e1 : c - a * (i : Int) - 1 = c - 1 - a * i := by omega
    rw [e1] at d
    omega
  rw [e, sm_add]
  unfold cn
  omega
theorem cn_eq (a b c u v t : Int) (ha : 0 < a) (hb : 0 < b) (hc : 0 ≤ c) (g : Int.gcd a b = 1) (u0 : 0 ≤ u) (u1 : u < a) (v0 : 0 ≤ v) (v1 : v < b) (e : c = u * b + v * a + a * b * t) : cn a b c = t + 1 := by
  have p : 0 ≤ c / a := Int.ediv_nonneg hc (by omega)
  have h1 : cn a b c = sm (fun i => if (i : Int) % b = v then 1 else 0) (c / a + 1).toNat := by
    unfold cn
    refine sm_congr _ fun i _ => ?_
    have e1 : c - a * (i : Int) = a * (v - i) + b * (u + a * t) := by
      rw [e]
      grind
    have iff : (c - a * (i : Int)) % b = 0 ↔ (i : Int) % b = v := by
      rw [e1, Int.add_mul_emod_self_left]
      constructor
      · intro h
        have d : b ∣ a * (v - i) := Int.dvd_of_emod_eq_zero h
        have d2 : b ∣ (v - i) := cop_dvd (by rw [Int.gcd_comm]; exact g) d
        have d3 := Int.emod_eq_zero_of_dvd d2
        have := (Int.emod_eq_emod_iff_emod_sub_eq_zero (m := v) (n := b) (k := i)).mpr d3
        rw [← this, Int.emod_eq_of_lt v0 v1]
      · intro h
        have : v % b = (i : Int) % b := by rw [h, Int.emod_eq_of_lt v0 v1]
        have d3 := (Int.emod_eq_emod_iff_emod_sub_eq_zero (m := v) (n := b) (k := i)).mp this
        exact Int.emod_eq_zero_of_dvd (Int.dvd_mul_of_dvd_right (Int.dvd_of_emod_eq_zero d3))
    by_cases q : (i : Int) % b = v
    · rw [if_pos q, if_pos (iff.mpr q)]
    · rw [if_neg q, if_neg fun z => q (iff.mp z)]
  rw [h1, cntmod v b v0 v1]
  have e2 : c / a = u * b / a + (v + b * t) := by
    have : c = u * b + a * (v + b * t) := by rw [e]; grind
    rw [this, Int.add_mul_ediv_left _ _ (by omega)]
  have w0 : 0 ≤ u * b / a := Int.ediv_nonneg (Int.mul_nonneg u0 (by omega)) (by omega)
  have w1 : u * b / a < b := by
    rw [Int.ediv_lt_iff_lt_mul ha, Int.mul_comm b a]
    exact Int.mul_lt_mul_of_pos_right u1 hb
  have en : (((c / a + 1).toNat : Nat) : Int) = c / a + 1 := by omega
  rw [en, e2]
  have e3 : u * b / a + (v + b * t) + 1 - v + b - 1 = u * b / a + b * (t + 1) := by
    rw [Int.mul_add]
    omega
  rw [e3, Int.add_mul_ediv_left _ _ (by omega), Int.ediv_eq_zero_of_lt w0 w1]
  omega
end Iv
end

section
set_option Elab.async false
set_option linter.all false
set_option maxRecDepth 100000
namespace K42
open PySem L2
def top (i : Nat) : Stmt := PySem.Challenge.pw_mediantrows_k42_whole_places_by_sums_and.main.body.getD i (.Pass ⟨0, 0, 0, 0⟩)
/-! _law_open_cells (level 1) -/
def b_l_open_cells : List Iv.Sm := [
  .asg (.nm 1) (.int 11),
  .for (.nm 2) (.seq (.var 0)) [.asg (.nm 1) (.bin .mod (.bi1 .int (.bin .add (.bin .add (.bin .mul (.var 1) (.int 69069)) (.bin .mul (.var 2) (.int 31))) (.int 5))) (.int 2147483629))],
  .asg (.nm 3) (.lc [2] (.bi1 .abs (.var 2)) (.nm 2) (.seq (.var 0)) none),
  .ret (.mks (.rev (.var 3)) (.int 1) (.var 1) (.int 0))]
def M_l_open_cells : Iv.Nm := ⟨["script", "stirred", "cell", "cells"], []⟩
noncomputable def T_l_open_cells : Iv.Tab := []
@[irreducible] noncomputable def f_l_open_cells : Iv.Fn := Iv.fnOf T_l_open_cells 4 1 b_l_open_cells
theorem d_l_open_cells : f_l_open_cells = Iv.fnOf T_l_open_cells 4 1 b_l_open_cells := by unfold f_l_open_cells; rfl
theorem s_l_open_cells : FnScope M_l_open_cells.N ["script"] (defScope (top 32)) := ⟨rfl, rfl, rfl, by decide +kernel, rfl, by decide +kernel, by decide +kernel⟩
theorem c_l_open_cells : Iv.chkSs M_l_open_cells (defScope (top 32)) b_l_open_cells (defBody (top 32)) = true := by decide +kernel
/-! _law_pick (level 1) -/
def b_l_pick : List Iv.Sm := [
  .cond (.cmp .lt (.var 1) (.int 2)) [.ret (.int 0)] [],
  .asg (.nm 2) (.sget (.var 0) .cells),
  .whl 1000000000000000000000000000000 (.and (.cmp .lt (.sget (.var 0) .left) (.int 2)) (.cmp .gt (.bi1 .len (.var 2)) (.int 0))) [.sset (.var 0) .left (.spop (.var 2))],
  .asg (.nm 3) (.sget (.var 0) .left),
  .cond (.cmp .gt (.var 3) (.int 1)) [.sset (.var 0) .left (.bin .fdiv (.var 3) (.var 1)), .ret (.bin .mod (.bi1 .int (.var 3)) (.var 1))] [],
  .sset (.var 0) .turn (.bin .add (.sget (.var 0) .turn) (.int 1)),
  .asg (.nm 4) (.sget (.var 0) .turn),
  .asg (.nm 5) (.bin .mod (.bi1 .int (.bin .add (.sget (.var 0) .mixed) (.bin .mul (.var 4) (.int 104729)))) (.int 998244353)),
  .asg (.nm 5) (.bin .mod (.bi1 .int (.bin .add (.bin .mul (.var 5) (.var 5)) (.bin .mul (.var 4) (.int 17)))) (.int 2147483647)),
  .ret (.bin .mod (.bi1 .int (.bin .fdiv (.var 5) (.int 16))) (.var 1))]
def M_l_pick : Iv.Nm := ⟨["source", "most", "cells", "others", "lap", "stirred"], []⟩
noncomputable def T_l_pick : Iv.Tab := []
@[irreducible] noncomputable def f_l_pick : Iv.Fn := Iv.fnOf T_l_pick 6 2 b_l_pick
theorem d_l_pick : f_l_pick = Iv.fnOf T_l_pick 6 2 b_l_pick := by unfold f_l_pick; rfl
theorem s_l_pick : FnScope M_l_pick.N ["source", "most"] (defScope (top 33)) := ⟨rfl, rfl, rfl, by decide +kernel, rfl, by decide +kernel, by decide +kernel⟩
theorem c_l_pick : Iv.chkSs M_l_pick (defScope (top 33)) b_l_pick (defBody (top 33)) = true := by decide +kernel
/-! _law_common (level 1) -/
def b_l_common : List Iv.Sm := [
  .par [(.nm 0), (.nm 1)] (.cons (.bi1 .abs (.var 0)) (.cons (.bi1 .abs (.var 1)) .nil)),
  .whl 1000000000000000000000000000000 (.cmp .gt (.var 1) (.int 0)) [.par [(.nm 0), (.nm 1)] (.cons (.var 1) (.cons (.bin .mod (.bi1 .int (.var 0)) (.var 1)) .nil))],
  .ret (.var 0)]
def M_l_common : Iv.Nm := ⟨["m", "n"], []⟩
noncomputable def T_l_common : Iv.Tab := []
@[irreducible] noncomputable def f_l_common : Iv.Fn := Iv.fnOf T_l_common 2 2 b_l_common
theorem d_l_common : f_l_common = Iv.fnOf T_l_common 2 2 b_l_common := by unfold f_l_common; rfl
theorem s_l_common : FnScope M_l_common.N ["m", "n"] (defScope (top 35)) := ⟨rfl, rfl, rfl, by decide +kernel, rfl, by decide +kernel, by decide +kernel⟩
theorem c_l_common : Iv.chkSs M_l_common (defScope (top 35)) b_l_common (defBody (top 35)) = true := by decide +kernel
/-! _law_between (level 2) -/
def b_l_between : List Iv.Sm := [
  .asg (.nm 2) (.bin .add (.int 2) (.call 0 (.cons (.var 0) (.cons (.bin .sub (.var 1) (.int 1)) .nil)))),
  .asg (.nm 3) (.bin .add (.int 1) (.call 0 (.cons (.var 0) (.cons (.bin .sub (.var 2) (.int 1)) .nil)))),
  .asg (.nm 4) (.call 1 (.cons (.var 3) (.cons (.var 2) .nil))),
  .ret (.tup (.cons (.bin .fdiv (.var 3) (.var 4)) (.cons (.bin .fdiv (.var 2) (.var 4)) .nil)))]
def M_l_between : Iv.Nm := ⟨["source", "most", "q", "p", "by"], ["_law_pick", "_law_common"]⟩
noncomputable def T_l_between : Iv.Tab := [("_law_pick", f_l_pick), ("_law_common", f_l_common)]
@[irreducible] noncomputable def f_l_between : Iv.Fn := Iv.fnOf T_l_between 5 2 b_l_between
theorem d_l_between : f_l_between = Iv.fnOf T_l_between 5 2 b_l_between := by unfold f_l_between; rfl
theorem s_l_between : FnScope M_l_between.N ["source", "most"] (defScope (top 36)) := ⟨rfl, rfl, rfl, by decide +kernel, rfl, by decide +kernel, by decide +kernel⟩
theorem c_l_between : Iv.chkSs M_l_between (defScope (top 36)) b_l_between (defBody (top 36)) = true := by decide +kernel
/-! steps_of_sums (level 1) -/
def b_steps_of_sums : List Iv.Sm := [
  .asg (.nm 4) (.lst .nil),
  .whl 1000000000000000000000000000000 (.cmp .gt (.var 0) (.int 0)) [.par [(.nm 6), (.nm 7)] (.cons (.bin .fdiv (.var 1) (.var 3)) (.cons (.bin .fdiv (.var 2) (.var 3)) .nil)), .par [(.nm 1), (.nm 2)] (.cons (.bin .mod (.var 1) (.var 3)) (.cons (.bin .mod (.var 2) (.var 3)) .nil)), .asg (.nm 5) (.bin .fdiv (.bin .add (.bin .mul (.var 1) (.var 0)) (.var 2)) (.var 3)), .app 4 (.tup (.cons (.var 0) (.cons (.var 6) (.cons (.var 7) (.cons (.var 1) (.cons (.var 2) (.cons (.var 3) (.cons (.var 5) .nil)))))))), .par [(.nm 0), (.nm 1), (.nm 2), (.nm 3)] (.cons (.var 5) (.cons (.var 3) (.cons (.bin .sub (.bin .add (.bin .sub (.var 3) (.var 2)) (.var 1)) (.int 1)) (.cons (.var 1) .nil))))],
  .ret (.var 4)]
def M_steps_of_sums : Iv.Nm := ⟨["n", "a", "b", "m", "found", "e", "k", "l"], []⟩
noncomputable def T_steps_of_sums : Iv.Tab := []
@[irreducible] noncomputable def f_steps_of_sums : Iv.Fn := Iv.fnOf T_steps_of_sums 8 4 b_steps_of_sums
theorem d_steps_of_sums : f_steps_of_sums = Iv.fnOf T_steps_of_sums 8 4 b_steps_of_sums := by unfold f_steps_of_sums; rfl
theorem s_steps_of_sums : FnScope M_steps_of_sums.N ["n", "a", "b", "m"] (defScope (top 28)) := ⟨rfl, rfl, rfl, by decide +kernel, rfl, by decide +kernel, by decide +kernel⟩
theorem c_steps_of_sums : Iv.chkSs M_steps_of_sums (defScope (top 28)) b_steps_of_sums (defBody (top 28)) = true := by decide +kernel
/-! sum_of_numbers (level 1) -/
def b_sum_of_numbers : List Iv.Sm := [
  .ret (.bin .fdiv (.bin .mul (.var 0) (.bin .sub (.var 0) (.int 1))) (.int 2))]
def M_sum_of_numbers : Iv.Nm := ⟨["n"], []⟩
noncomputable def T_sum_of_numbers : Iv.Tab := []
@[irreducible] noncomputable def f_sum_of_numbers : Iv.Fn := Iv.fnOf T_sum_of_numbers 1 1 b_sum_of_numbers
theorem d_sum_of_numbers : f_sum_of_numbers = Iv.fnOf T_sum_of_numbers 1 1 b_sum_of_numbers := by unfold f_sum_of_numbers; rfl
theorem s_sum_of_numbers : FnScope M_sum_of_numbers.N ["n"] (defScope (top 26)) := ⟨rfl, rfl, rfl, by decide +kernel, rfl, by decide +kernel, by decide +kernel⟩
theorem c_sum_of_numbers : Iv.chkSs M_sum_of_numbers (defScope (top 26)) b_sum_of_numbers (defBody (top 26)) = true := by decide +kernel
/-! whole_sum (level 2) -/
def b_whole_sum : List Iv.Sm := [
  .asg (.nm 4) (.int 0),
  .for (.tup [(.nm 0), (.nm 5), (.nm 6), (.nm 1), (.nm 2), (.nm 3), (.nm 7)]) (.seq (.rev (.call 0 (.cons (.var 0) (.cons (.var 1) (.cons (.var 2) (.cons (.var 3) .nil))))))) [.asg (.nm 4) (.bin .add (.bin .add (.bin .sub (.bin .mul (.var 7) (.var 0)) (.var 4)) (.bin .mul (.var 5) (.call 1 (.cons (.var 0) .nil)))) (.bin .mul (.var 6) (.var 0)))],
  .ret (.var 4)]
def M_whole_sum : Iv.Nm := ⟨["n", "a", "b", "m", "s", "k", "l", "e"], ["steps_of_sums", "sum_of_numbers"]⟩
noncomputable def T_whole_sum : Iv.Tab := [("steps_of_sums", f_steps_of_sums), ("sum_of_numbers", f_sum_of_numbers)]
@[irreducible] noncomputable def f_whole_sum : Iv.Fn := Iv.fnOf T_whole_sum 8 4 b_whole_sum
theorem d_whole_sum : f_whole_sum = Iv.fnOf T_whole_sum 8 4 b_whole_sum := by unfold f_whole_sum; rfl
theorem s_whole_sum : FnScope M_whole_sum.N ["n", "a", "b", "m"] (defScope (top 30)) := ⟨rfl, rfl, rfl, by decide +kernel, rfl, by decide +kernel, by decide +kernel⟩
theorem c_whole_sum : Iv.chkSs M_whole_sum (defScope (top 30)) b_whole_sum (defBody (top 30)) = true := by decide +kernel
/-! sum_of_squares (level 1) -/
def b_sum_of_squares : List Iv.Sm := [
  .ret (.bin .fdiv (.bin .mul (.bin .mul (.var 0) (.bin .sub (.var 0) (.int 1))) (.bin .sub (.bin .mul (.int 2) (.var 0)) (.int 1))) (.int 6))]
def M_sum_of_squares : Iv.Nm := ⟨["n"], []⟩
noncomputable def T_sum_of_squares : Iv.Tab := []
@[irreducible] noncomputable def f_sum_of_squares : Iv.Fn := Iv.fnOf T_sum_of_squares 1 1 b_sum_of_squares
theorem d_sum_of_squares : f_sum_of_squares = Iv.fnOf T_sum_of_squares 1 1 b_sum_of_squares := by unfold f_sum_of_squares; rfl
theorem s_sum_of_squares : FnScope M_sum_of_squares.N ["n"] (defScope (top 27)) := ⟨rfl, rfl, rfl, by decide +kernel, rfl, by decide +kernel, by decide +kernel⟩
theorem c_sum_of_squares : Iv.chkSs M_sum_of_squares (defScope (top 27)) b_sum_of_squares (defBody (top 27)) = true := by decide +kernel
/-! whole_sums (level 2) -/
def b_whole_sums : List Iv.Sm := [
  .par [(.nm 4), (.nm 5), (.nm 6)] (.cons (.int 0) (.cons (.int 0) (.cons (.int 0) .nil))),
  .for (.tup [(.nm 0), (.nm 7), (.nm 8), (.nm 1), (.nm 2), (.nm 3), (.nm 9)]) (.seq (.rev (.call 0 (.cons (.var 0) (.cons (.var 1) (.cons (.var 2) (.cons (.var 3) .nil))))))) [.par [(.nm 4), (.nm 5), (.nm 6)] (.cons (.bin .sub (.bin .mul (.var 9) (.var 0)) (.var 4)) (.cons (.bin .fdiv (.bin .add (.bin .sub (.bin .mul (.bin .mul (.var 9) (.var 0)) (.bin .sub (.var 0) (.int 1))) (.var 6)) (.var 4)) (.int 2)) (.cons (.bin .sub (.bin .sub (.bin .mul (.bin .mul (.var 9) (.var 9)) (.var 0)) (.bin .mul (.int 2) (.var 5))) (.var 4)) .nil))), .par [(.nm 10), (.nm 11)] (.cons (.call 2 (.cons (.var 0) .nil)) (.cons (.call 1 (.cons (.var 0) .nil)) .nil)), .asg (.nm 6) (.bin .add (.bin .add (.bin .add (.bin .add (.bin .add (.bin .mul (.bin .mul (.var 7) (.var 7)) (.var 11)) (.bin .mul (.bin .mul (.bin .mul (.int 2) (.var 7)) (.var 8)) (.var 10))) (.bin .mul (.bin .mul (.var 8) (.var 8)) (.var 0))) (.var 6)) (.bin .mul (.bin .mul (.int 2) (.var 7)) (.var 5))) (.bin .mul (.bin .mul (.int 2) (.var 8)) (.var 4))), .asg (.nm 5) (.bin .add (.bin .add (.bin .mul (.var 7) (.var 11)) (.bin .mul (.var 8) (.var 10))) (.var 5)), .asg (.nm 4) (.bin .add (.bin .add (.bin .mul (.var 7) (.var 10)) (.bin .mul (.var 8) (.var 0))) (.var 4))],
  .ret (.tup (.cons (.var 4) (.cons (.var 5) (.cons (.var 6) .nil))))]
def M_whole_sums : Iv.Nm := ⟨["n", "a", "b", "m", "s", "t", "q", "k", "l", "e", "first", "second"], ["steps_of_sums", "sum_of_squares", "sum_of_numbers"]⟩
noncomputable def T_whole_sums : Iv.Tab := [("steps_of_sums", f_steps_of_sums), ("sum_of_squares", f_sum_of_squares), ("sum_of_numbers", f_sum_of_numbers)]
@[irreducible] noncomputable def f_whole_sums : Iv.Fn := Iv.fnOf T_whole_sums 12 4 b_whole_sums
theorem d_whole_sums : f_whole_sums = Iv.fnOf T_whole_sums 12 4 b_whole_sums := by unfold f_whole_sums; rfl
theorem s_whole_sums : FnScope M_whole_sums.N ["n", "a", "b", "m"] (defScope (top 29)) := ⟨rfl, rfl, rfl, by decide +kernel, rfl, by decide +kernel, by decide +kernel⟩
theorem c_whole_sums : Iv.chkSs M_whole_sums (defScope (top 29)) b_whole_sums (defBody (top 29)) = true := by decide +kernel
/-! parts_up_to (level 1) -/
def b_parts_up_to : List Iv.Sm := [
  .ret (.bi1 .sum (.lc [2] (.bin .fdiv (.bin .mul (.idx (.var 1) (.int 0)) (.var 2)) (.idx (.var 1) (.int 1))) (.nm 2) (.rg2 (.int 1) (.bin .add (.var 0) (.int 1))) none))]
def M_parts_up_to : Iv.Nm := ⟨["n", "x", "k"], []⟩
noncomputable def T_parts_up_to : Iv.Tab := []
@[irreducible] noncomputable def f_parts_up_to : Iv.Fn := Iv.fnOf T_parts_up_to 3 2 b_parts_up_to
theorem d_parts_up_to : f_parts_up_to = Iv.fnOf T_parts_up_to 3 2 b_parts_up_to := by unfold f_parts_up_to; rfl
theorem s_parts_up_to : FnScope M_parts_up_to.N ["n", "x"] (defScope (top 17)) := ⟨rfl, rfl, rfl, by decide +kernel, rfl, by decide +kernel, by decide +kernel⟩
theorem c_parts_up_to : Iv.chkSs M_parts_up_to (defScope (top 17)) b_parts_up_to (defBody (top 17)) = true := by decide +kernel
/-! count_apart (level 1) -/
def b_count_apart : List Iv.Sm := [
  .par [(.nm 1), (.nm 2), (.nm 3)] (.cons (.var 0) (.cons (.var 0) (.cons (.int 2) .nil))),
  .whl 1000000000000000000000000000000 (.cmp .le (.bin .mul (.var 3) (.var 3)) (.var 2)) [.cond (.cmp .eq (.bin .mod (.var 2) (.var 3)) (.int 0)) [.asg (.nm 1) (.bin .mul (.bin .fdiv (.var 1) (.var 3)) (.bin .sub (.var 3) (.int 1))), .whl 1000000000000000000000000000000 (.cmp .eq (.bin .mod (.var 2) (.var 3)) (.int 0)) [.asg (.nm 2) (.bin .fdiv (.var 2) (.var 3))]] [], .asg (.nm 3) (.bin .add (.var 3) (.int 1))],
  .ret (.ite (.cmp .gt (.var 2) (.int 1)) (.bin .mul (.bin .fdiv (.var 1) (.var 2)) (.bin .sub (.var 2) (.int 1))) (.var 1))]
def M_count_apart : Iv.Nm := ⟨["k", "found", "left", "d"], []⟩
noncomputable def T_count_apart : Iv.Tab := []
@[irreducible] noncomputable def f_count_apart : Iv.Fn := Iv.fnOf T_count_apart 4 1 b_count_apart
theorem d_count_apart : f_count_apart = Iv.fnOf T_count_apart 4 1 b_count_apart := by unfold f_count_apart; rfl
theorem s_count_apart : FnScope M_count_apart.N ["k"] (defScope (top 14)) := ⟨rfl, rfl, rfl, by decide +kernel, rfl, by decide +kernel, by decide +kernel⟩
theorem c_count_apart : Iv.chkSs M_count_apart (defScope (top 14)) b_count_apart (defBody (top 14)) = true := by decide +kernel
/-! row_size (level 2) -/
def b_row_size : List Iv.Sm := [
  .ret (.bin .add (.int 1) (.bi1 .sum (.lc [1] (.call 0 (.cons (.var 1) .nil)) (.nm 1) (.rg2 (.int 1) (.bin .add (.var 0) (.int 1))) none)))]
def M_row_size : Iv.Nm := ⟨["n", "k"], ["count_apart"]⟩
noncomputable def T_row_size : Iv.Tab := [("count_apart", f_count_apart)]
@[irreducible] noncomputable def f_row_size : Iv.Fn := Iv.fnOf T_row_size 2 1 b_row_size
theorem d_row_size : f_row_size = Iv.fnOf T_row_size 2 1 b_row_size := by unfold f_row_size; rfl
theorem s_row_size : FnScope M_row_size.N ["n"] (defScope (top 16)) := ⟨rfl, rfl, rfl, by decide +kernel, rfl, by decide +kernel, by decide +kernel⟩
theorem c_row_size : Iv.chkSs M_row_size (defScope (top 16)) b_row_size (defBody (top 16)) = true := by decide +kernel
/-! mobius_of (level 1) -/
def b_mobius_of : List Iv.Sm := [
  .par [(.nm 1), (.nm 2)] (.cons (.int 1) (.cons (.int 2) .nil)),
  .whl 1000000000000000000000000000000 (.cmp .le (.bin .mul (.var 2) (.var 2)) (.var 0)) [.cond (.cmp .eq (.bin .mod (.var 0) (.var 2)) (.int 0)) [.par [(.nm 0), (.nm 1)] (.cons (.bin .fdiv (.var 0) (.var 2)) (.cons (.neg (.var 1)) .nil)), .cond (.cmp .eq (.bin .mod (.var 0) (.var 2)) (.int 0)) [.ret (.int 0)] []] [], .asg (.nm 2) (.bin .add (.var 2) (.int 1))],
  .ret (.ite (.cmp .gt (.var 0) (.int 1)) (.neg (.var 1)) (.var 1))]
def M_mobius_of : Iv.Nm := ⟨["d", "found", "p"], []⟩
noncomputable def T_mobius_of : Iv.Tab := []
@[irreducible] noncomputable def f_mobius_of : Iv.Fn := Iv.fnOf T_mobius_of 3 1 b_mobius_of
theorem d_mobius_of : f_mobius_of = Iv.fnOf T_mobius_of 3 1 b_mobius_of := by unfold f_mobius_of; rfl
theorem s_mobius_of : FnScope M_mobius_of.N ["d"] (defScope (top 15)) := ⟨rfl, rfl, rfl, by decide +kernel, rfl, by decide +kernel, by decide +kernel⟩
theorem c_mobius_of : Iv.chkSs M_mobius_of (defScope (top 15)) b_mobius_of (defBody (top 15)) = true := by decide +kernel
/-! place_in_row (level 2) -/
def b_place_in_row : List Iv.Sm := [
  .asg (.nm 2) (.int 0),
  .for (.nm 3) (.rg2 (.int 1) (.bin .add (.var 0) (.int 1))) [.asg (.nm 4) (.call 0 (.cons (.var 3) .nil)), .cond (.cmp .ne (.var 4) (.int 0)) [.asg (.nm 2) (.bin .add (.var 2) (.bin .mul (.var 4) (.call 1 (.cons (.bin .fdiv (.var 0) (.var 3)) (.cons (.var 1) .nil)))))] []],
  .ret (.var 2)]
def M_place_in_row : Iv.Nm := ⟨["n", "x", "total", "d", "sign"], ["mobius_of", "parts_up_to"]⟩
noncomputable def T_place_in_row : Iv.Tab := [("mobius_of", f_mobius_of), ("parts_up_to", f_parts_up_to)]
@[irreducible] noncomputable def f_place_in_row : Iv.Fn := Iv.fnOf T_place_in_row 5 2 b_place_in_row
theorem d_place_in_row : f_place_in_row = Iv.fnOf T_place_in_row 5 2 b_place_in_row := by unfold f_place_in_row; rfl
theorem s_place_in_row : FnScope M_place_in_row.N ["n", "x"] (defScope (top 18)) := ⟨rfl, rfl, rfl, by decide +kernel, rfl, by decide +kernel, by decide +kernel⟩
theorem c_place_in_row : Iv.chkSs M_place_in_row (defScope (top 18)) b_place_in_row (defBody (top 18)) = true := by decide +kernel
/-! _law_places_right (level 3) -/
def b_l_places_right : List Iv.Sm := [
  .asg (.tup [(.nm 4), (.nm 5)]) (.var 1),
  .asg (.nm 2) (.int 0),
  .for (.nm 3) (.rg2 (.int 1) (.bin .add (.var 0) (.int 1))) [.cond (.cmp .ne (.call 0 (.cons (.var 3) .nil)) (.int 0)) [.asg (.nm 2) (.bin .add (.var 2) (.bin .mul (.call 0 (.cons (.var 3) .nil)) (.call 1 (.cons (.bin .add (.bin .fdiv (.var 0) (.var 3)) (.int 1)) (.cons (.var 4) (.cons (.int 0) (.cons (.var 5) .nil)))))))] []],
  .ret (.cmp .eq (.var 2) (.call 2 (.cons (.var 0) (.cons (.var 1) .nil))))]
def M_l_places_right : Iv.Nm := ⟨["n", "x", "total", "d", "p", "q"], ["mobius_of", "whole_sum", "place_in_row"]⟩
noncomputable def T_l_places_right : Iv.Tab := [("mobius_of", f_mobius_of), ("whole_sum", f_whole_sum), ("place_in_row", f_place_in_row)]
@[irreducible] noncomputable def f_l_places_right : Iv.Fn := Iv.fnOf T_l_places_right 6 2 b_l_places_right
theorem d_l_places_right : f_l_places_right = Iv.fnOf T_l_places_right 6 2 b_l_places_right := by unfold f_l_places_right; rfl
theorem s_l_places_right : FnScope M_l_places_right.N ["n", "x"] (defScope (top 37)) := ⟨rfl, rfl, rfl, by decide +kernel, rfl, by decide +kernel, by decide +kernel⟩
theorem c_l_places_right : Iv.chkSs M_l_places_right (defScope (top 37)) b_l_places_right (defBody (top 37)) = true := by decide +kernel
/-! member_behind (level 1) -/
def b_member_behind : List Iv.Sm := [
  .asg (.nm 3) (.bin .fdiv (.bin .add (.var 0) (.idx (.var 1) (.int 1))) (.idx (.var 2) (.int 1))),
  .ret (.tup (.cons (.bin .sub (.bin .mul (.var 3) (.idx (.var 2) (.int 0))) (.idx (.var 1) (.int 0))) (.cons (.bin .sub (.bin .mul (.var 3) (.idx (.var 2) (.int 1))) (.idx (.var 1) (.int 1))) .nil)))]
def M_member_behind : Iv.Nm := ⟨["n", "y", "z", "k"], []⟩
noncomputable def T_member_behind : Iv.Tab := []
@[irreducible] noncomputable def f_member_behind : Iv.Fn := Iv.fnOf T_member_behind 4 3 b_member_behind
theorem d_member_behind : f_member_behind = Iv.fnOf T_member_behind 4 3 b_member_behind := by unfold f_member_behind; rfl
theorem s_member_behind : FnScope M_member_behind.N ["n", "y", "z"] (defScope (top 12)) := ⟨rfl, rfl, rfl, by decide +kernel, rfl, by decide +kernel, by decide +kernel⟩
theorem c_member_behind : Iv.chkSs M_member_behind (defScope (top 12)) b_member_behind (defBody (top 12)) = true := by decide +kernel
/-! farey_row (level 2) -/
def b_farey_row : List Iv.Sm := [
  .asg (.nm 1) (.lst (.cons (.tup (.cons (.int 0) (.cons (.int 1) .nil))) (.cons (.tup (.cons (.int 1) (.cons (.var 0) .nil))) .nil))),
  .whl 1000000000000000000000000000000 (.cmp .ne (.idx (.var 1) (.neg (.int 1))) (.tup (.cons (.int 1) (.cons (.int 1) .nil)))) [.app 1 (.call 0 (.cons (.var 0) (.cons (.idx (.var 1) (.neg (.int 2))) (.cons (.idx (.var 1) (.neg (.int 1))) .nil))))],
  .ret (.bi1 .tuple (.var 1))]
def M_farey_row : Iv.Nm := ⟨["n", "found"], ["member_behind"]⟩
noncomputable def T_farey_row : Iv.Tab := [("member_behind", f_member_behind)]
@[irreducible] noncomputable def f_farey_row : Iv.Fn := Iv.fnOf T_farey_row 2 1 b_farey_row
theorem d_farey_row : f_farey_row = Iv.fnOf T_farey_row 2 1 b_farey_row := by unfold f_farey_row; rfl
theorem s_farey_row : FnScope M_farey_row.N ["n"] (defScope (top 10)) := ⟨rfl, rfl, rfl, by decide +kernel, rfl, by decide +kernel, by decide +kernel⟩
theorem c_farey_row : Iv.chkSs M_farey_row (defScope (top 10)) b_farey_row (defBody (top 10)) = true := by decide +kernel
/-! member_at (level 3) -/
def b_member_at : List Iv.Sm := [
  .ret (.idx (.call 0 (.cons (.var 0) .nil)) (.var 1))]
def M_member_at : Iv.Nm := ⟨["n", "place"], ["farey_row"]⟩
noncomputable def T_member_at : Iv.Tab := [("farey_row", f_farey_row)]
@[irreducible] noncomputable def f_member_at : Iv.Fn := Iv.fnOf T_member_at 2 2 b_member_at
theorem d_member_at : f_member_at = Iv.fnOf T_member_at 2 2 b_member_at := by unfold f_member_at; rfl
theorem s_member_at : FnScope M_member_at.N ["n", "place"] (defScope (top 19)) := ⟨rfl, rfl, rfl, by decide +kernel, rfl, by decide +kernel, by decide +kernel⟩
theorem c_member_at : Iv.chkSs M_member_at (defScope (top 19)) b_member_at (defBody (top 19)) = true := by decide +kernel
/-! is_integer_value (level 1) -/
def b_is_integer_value : List Iv.Sm := [
  .ret (.and (.bi1 .isInt (.var 0)) (.not (.bi1 .isBool (.var 0))))]
def M_is_integer_value : Iv.Nm := ⟨["value"], []⟩
noncomputable def T_is_integer_value : Iv.Tab := []
@[irreducible] noncomputable def f_is_integer_value : Iv.Fn := Iv.fnOf T_is_integer_value 1 1 b_is_integer_value
theorem d_is_integer_value : f_is_integer_value = Iv.fnOf T_is_integer_value 1 1 b_is_integer_value := by unfold f_is_integer_value; rfl
theorem s_is_integer_value : FnScope M_is_integer_value.N ["value"] (defScope (top 2)) := ⟨rfl, rfl, rfl, by decide +kernel, rfl, by decide +kernel, by decide +kernel⟩
theorem c_is_integer_value : Iv.chkSs M_is_integer_value (defScope (top 2)) b_is_integer_value (defBody (top 2)) = true := by decide +kernel
/-! is_fraction (level 2) -/
def b_is_fraction : List Iv.Sm := [
  .cond (.or (.not (.bi1 .isTup (.var 0))) (.or (.cmp .ne (.bi1 .len (.var 0)) (.int 2)) (.not (.bi1 .all (.lc [1] (.call 0 (.cons (.var 1) .nil)) (.nm 1) (.seq (.var 0)) none))))) [.ret (.bl false)] [],
  .ret (.and (.cmp .gt (.idx (.var 0) (.int 1)) (.int 0)) (.cmp .eq (.call 1 (.cons (.idx (.var 0) (.int 0)) (.cons (.idx (.var 0) (.int 1)) .nil))) (.int 1)))]
def M_is_fraction : Iv.Nm := ⟨["value", "x"], ["is_integer_value", "gcd"]⟩
noncomputable def T_is_fraction : Iv.Tab := [("is_integer_value", f_is_integer_value), ("gcd", Iv.gcdFn)]
@[irreducible] noncomputable def f_is_fraction : Iv.Fn := Iv.fnOf T_is_fraction 2 1 b_is_fraction
theorem d_is_fraction : f_is_fraction = Iv.fnOf T_is_fraction 2 1 b_is_fraction := by unfold f_is_fraction; rfl
theorem s_is_fraction : FnScope M_is_fraction.N ["value"] (defScope (top 3)) := ⟨rfl, rfl, rfl, by decide +kernel, rfl, by decide +kernel, by decide +kernel⟩
theorem c_is_fraction : Iv.chkSs M_is_fraction (defScope (top 3)) b_is_fraction (defBody (top 3)) = true := by decide +kernel
/-! is_member (level 3) -/
def b_is_member : List Iv.Sm := [
  .ret (.and (.call 0 (.cons (.var 1) .nil)) (.and (.cmp .le (.idx (.var 1) (.int 1)) (.var 0)) (.chain .le .le (.int 0) (.idx (.var 1) (.int 0)) (.idx (.var 1) (.int 1)))))]
def M_is_member : Iv.Nm := ⟨["n", "value"], ["is_fraction"]⟩
noncomputable def T_is_member : Iv.Tab := [("is_fraction", f_is_fraction)]
@[irreducible] noncomputable def f_is_member : Iv.Fn := Iv.fnOf T_is_member 2 2 b_is_member
theorem d_is_member : f_is_member = Iv.fnOf T_is_member 2 2 b_is_member := by unfold f_is_member; rfl
theorem s_is_member : FnScope M_is_member.N ["n", "value"] (defScope (top 11)) := ⟨rfl, rfl, rfl, by decide +kernel, rfl, by decide +kernel, by decide +kernel⟩
theorem c_is_member : Iv.chkSs M_is_member (defScope (top 11)) b_is_member (defBody (top 11)) = true := by decide +kernel
/-! place_from (level 1) -/
def b_place_from : List Iv.Sm := [
  .asg (.tup [(.nm 2), (.nm 3), (.nm 4)]) (.var 0),
  .ret (.neg (.bin .fdiv (.bin .sub (.var 4) (.bin .mul (.var 3) (.var 1))) (.var 2)))]
def M_place_from : Iv.Nm := ⟨["row", "n", "p", "q", "r"], []⟩
noncomputable def T_place_from : Iv.Tab := []
@[irreducible] noncomputable def f_place_from : Iv.Fn := Iv.fnOf T_place_from 5 2 b_place_from
theorem d_place_from : f_place_from = Iv.fnOf T_place_from 5 2 b_place_from := by unfold f_place_from; rfl
theorem s_place_from : FnScope M_place_from.N ["row", "n"] (defScope (top 22)) := ⟨rfl, rfl, rfl, by decide +kernel, rfl, by decide +kernel, by decide +kernel⟩
theorem c_place_from : Iv.chkSs M_place_from (defScope (top 22)) b_place_from (defBody (top 22)) = true := by decide +kernel
/-! floor_count (level 2) -/
def b_floor_count : List Iv.Sm := [
  .ret (.bin .sub (.call 0 (.cons (.var 0) (.cons (.var 1) .nil))) (.call 0 (.cons (.var 0) (.cons (.int 0) .nil))))]
def M_floor_count : Iv.Nm := ⟨["row", "many"], ["place_from"]⟩
noncomputable def T_floor_count : Iv.Tab := [("place_from", f_place_from)]
@[irreducible] noncomputable def f_floor_count : Iv.Fn := Iv.fnOf T_floor_count 2 2 b_floor_count
theorem d_floor_count : f_floor_count = Iv.fnOf T_floor_count 2 2 b_floor_count := by unfold f_floor_count; rfl
theorem s_floor_count : FnScope M_floor_count.N ["row", "many"] (defScope (top 23)) := ⟨rfl, rfl, rfl, by decide +kernel, rfl, by decide +kernel, by decide +kernel⟩
theorem c_floor_count : Iv.chkSs M_floor_count (defScope (top 23)) b_floor_count (defBody (top 23)) = true := by decide +kernel
/-! rest_floor_row (level 1) -/
def b_rest_floor_row : List Iv.Sm := [
  .asg (.tup [(.nm 1), (.nm 2), (.nm 3)]) (.var 0),
  .ret (.tup (.cons (.var 1) (.cons (.bin .sub (.var 1) (.var 2)) (.cons (.bin .mod (.bin .sub (.bin .sub (.var 1) (.int 1)) (.var 3)) (.var 1)) .nil))))]
def M_rest_floor_row : Iv.Nm := ⟨["row", "p", "q", "r"], []⟩
noncomputable def T_rest_floor_row : Iv.Tab := []
@[irreducible] noncomputable def f_rest_floor_row : Iv.Fn := Iv.fnOf T_rest_floor_row 4 1 b_rest_floor_row
theorem d_rest_floor_row : f_rest_floor_row = Iv.fnOf T_rest_floor_row 4 1 b_rest_floor_row := by unfold f_rest_floor_row; rfl
theorem s_rest_floor_row : FnScope M_rest_floor_row.N ["row"] (defScope (top 24)) := ⟨rfl, rfl, rfl, by decide +kernel, rfl, by decide +kernel, by decide +kernel⟩
theorem c_rest_floor_row : Iv.chkSs M_rest_floor_row (defScope (top 24)) b_rest_floor_row (defBody (top 24)) = true := by decide +kernel
/-! is_in_floor_row (level 1) -/
def b_is_in_floor_row : List Iv.Sm := [
  .asg (.tup [(.nm 2), (.nm 3), (.nm 4)]) (.var 0),
  .ret (.cmp .lt (.bin .mod (.bin .sub (.var 4) (.bin .mul (.var 3) (.var 1))) (.var 2)) (.var 3))]
def M_is_in_floor_row : Iv.Nm := ⟨["row", "n", "p", "q", "r"], []⟩
noncomputable def T_is_in_floor_row : Iv.Tab := []
@[irreducible] noncomputable def f_is_in_floor_row : Iv.Fn := Iv.fnOf T_is_in_floor_row 5 2 b_is_in_floor_row
theorem d_is_in_floor_row : f_is_in_floor_row = Iv.fnOf T_is_in_floor_row 5 2 b_is_in_floor_row := by unfold f_is_in_floor_row; rfl
theorem s_is_in_floor_row : FnScope M_is_in_floor_row.N ["row", "n"] (defScope (top 21)) := ⟨rfl, rfl, rfl, by decide +kernel, rfl, by decide +kernel, by decide +kernel⟩
theorem c_is_in_floor_row : Iv.chkSs M_is_in_floor_row (defScope (top 21)) b_is_in_floor_row (defBody (top 21)) = true := by decide +kernel
/-! _law_floors_right (level 3) -/
def b_l_floors_right : List Iv.Sm := [
  .asg (.tup [(.nm 5), (.nm 6)]) (.var 1),
  .par [(.nm 7), (.nm 8)] (.cons (.bin .sub (.call 0 (.cons (.var 0) (.cons (.int 401) .nil))) (.int 200)) (.cons (.bin .add (.int 1) (.call 0 (.cons (.var 0) (.cons (.int 2000) .nil)))) .nil)),
  .asg (.nm 2) (.tup (.cons (.var 6) (.cons (.var 5) (.cons (.var 7) .nil)))),
  .asg (.nm 3) (.bin .sub (.call 1 (.cons (.var 8) (.cons (.bin .sub (.int 0) (.var 5)) (.cons (.var 7) (.cons (.var 6) .nil))))) (.call 1 (.cons (.var 8) (.cons (.bin .sub (.int 0) (.var 5)) (.cons (.bin .sub (.var 7) (.var 5)) (.cons (.var 6) .nil)))))),
  .cond (.or (.cmp .ne (.call 2 (.cons (.var 2) (.cons (.var 8) .nil))) (.var 3)) (.cmp .ne (.call 2 (.cons (.call 3 (.cons (.var 2) .nil)) (.cons (.var 8) .nil))) (.bin .sub (.var 8) (.var 3)))) [.ret (.bl false)] [],
  .asg (.nm 4) (.bin .sub (.call 0 (.cons (.var 0) (.cons (.int 2001) .nil))) (.int 1000)),
  .ret (.cmp .eq (.call 4 (.cons (.var 2) (.cons (.var 4) .nil))) (.cmp .eq (.bin .sub (.bin .fdiv (.bin .sub (.var 7) (.bin .mul (.var 5) (.var 4))) (.var 6)) (.bin .fdiv (.bin .sub (.bin .sub (.var 7) (.bin .mul (.var 5) (.var 4))) (.var 5)) (.var 6))) (.int 1)))]
def M_l_floors_right : Iv.Nm := ⟨["source", "x", "row", "due", "n", "q", "p", "r", "many"], ["_law_pick", "whole_sum", "floor_count", "rest_floor_row", "is_in_floor_row"]⟩
noncomputable def T_l_floors_right : Iv.Tab := [("_law_pick", f_l_pick), ("whole_sum", f_whole_sum), ("floor_count", f_floor_count), ("rest_floor_row", f_rest_floor_row), ("is_in_floor_row", f_is_in_floor_row)]
@[irreducible] noncomputable def f_l_floors_right : Iv.Fn := Iv.fnOf T_l_floors_right 9 2 b_l_floors_right
theorem d_l_floors_right : f_l_floors_right = Iv.fnOf T_l_floors_right 9 2 b_l_floors_right := by unfold f_l_floors_right; rfl
theorem s_l_floors_right : FnScope M_l_floors_right.N ["source", "x"] (defScope (top 39)) := ⟨rfl, rfl, rfl, by decide +kernel, rfl, by decide +kernel, by decide +kernel⟩
theorem c_l_floors_right : Iv.chkSs M_l_floors_right (defScope (top 39)) b_l_floors_right (defBody (top 39)) = true := by decide +kernel
/-! _law_of (level 2) -/
def b_l_of : List Iv.Sm := [
  .ret (.idx (.var 1) (.call 0 (.cons (.var 0) (.cons (.bi1 .len (.var 1)) .nil))))]
def M_l_of : Iv.Nm := ⟨["source", "some"], ["_law_pick"]⟩
noncomputable def T_l_of : Iv.Tab := [("_law_pick", f_l_pick)]
@[irreducible] noncomputable def f_l_of : Iv.Fn := Iv.fnOf T_l_of 2 2 b_l_of
theorem d_l_of : f_l_of = Iv.fnOf T_l_of 2 2 b_l_of := by unfold f_l_of; rfl
theorem s_l_of : FnScope M_l_of.N ["source", "some"] (defScope (top 34)) := ⟨rfl, rfl, rfl, by decide +kernel, rfl, by decide +kernel, by decide +kernel⟩
theorem c_l_of : Iv.chkSs M_l_of (defScope (top 34)) b_l_of (defBody (top 34)) = true := by decide +kernel
/-! fraction_of (level 1) -/
def b_fraction_of : List Iv.Sm := [
  .asg (.nm 2) (.ite (.cmp .gt (.var 1) (.int 0)) (.call 0 (.cons (.var 0) (.cons (.var 1) .nil))) (.neg (.call 0 (.cons (.var 0) (.cons (.var 1) .nil))))),
  .ret (.tup (.cons (.bin .fdiv (.var 0) (.var 2)) (.cons (.bin .fdiv (.var 1) (.var 2)) .nil)))]
def M_fraction_of : Iv.Nm := ⟨["p", "q", "by"], ["gcd"]⟩
noncomputable def T_fraction_of : Iv.Tab := [("gcd", Iv.gcdFn)]
@[irreducible] noncomputable def f_fraction_of : Iv.Fn := Iv.fnOf T_fraction_of 3 2 b_fraction_of
theorem d_fraction_of : f_fraction_of = Iv.fnOf T_fraction_of 3 2 b_fraction_of := by unfold f_fraction_of; rfl
theorem s_fraction_of : FnScope M_fraction_of.N ["p", "q"] (defScope (top 4)) := ⟨rfl, rfl, rfl, by decide +kernel, rfl, by decide +kernel, by decide +kernel⟩
theorem c_fraction_of : Iv.chkSs M_fraction_of (defScope (top 4)) b_fraction_of (defBody (top 4)) = true := by decide +kernel
/-! ring_place (level 2) -/
def b_ring_place : List Iv.Sm := [
  .ret (.call 0 (.cons (.bin .mod (.bin .mul (.var 1) (.idx (.var 0) (.int 0))) (.idx (.var 0) (.int 1))) (.cons (.idx (.var 0) (.int 1)) .nil)))]
def M_ring_place : Iv.Nm := ⟨["x", "k"], ["fraction_of"]⟩
noncomputable def T_ring_place : Iv.Tab := [("fraction_of", f_fraction_of)]
@[irreducible] noncomputable def f_ring_place : Iv.Fn := Iv.fnOf T_ring_place 2 2 b_ring_place
theorem d_ring_place : f_ring_place = Iv.fnOf T_ring_place 2 2 b_ring_place := by unfold f_ring_place; rfl
theorem s_ring_place : FnScope M_ring_place.N ["x", "k"] (defScope (top 6)) := ⟨rfl, rfl, rfl, by decide +kernel, rfl, by decide +kernel, by decide +kernel⟩
theorem c_ring_place : Iv.chkSs M_ring_place (defScope (top 6)) b_ring_place (defBody (top 6)) = true := by decide +kernel
/-! points_below (level 1) -/
def b_points_below : List Iv.Sm := [
  .ret (.bi1 .len (.lc [3] (.var 3) (.nm 3) (.rg1 (.var 1)) (some (.cmp .lt (.bin .mul (.bin .mod (.bin .mul (.var 3) (.idx (.var 0) (.int 0))) (.idx (.var 0) (.int 1))) (.idx (.var 2) (.int 1))) (.bin .mul (.idx (.var 2) (.int 0)) (.idx (.var 0) (.int 1)))))))]
def M_points_below : Iv.Nm := ⟨["x", "many", "y", "k"], []⟩
noncomputable def T_points_below : Iv.Tab := []
@[irreducible] noncomputable def f_points_below : Iv.Fn := Iv.fnOf T_points_below 4 3 b_points_below
theorem d_points_below : f_points_below = Iv.fnOf T_points_below 4 3 b_points_below := by unfold f_points_below; rfl
theorem s_points_below : FnScope M_points_below.N ["x", "many", "y"] (defScope (top 8)) := ⟨rfl, rfl, rfl, by decide +kernel, rfl, by decide +kernel, by decide +kernel⟩
theorem c_points_below : Iv.chkSs M_points_below (defScope (top 8)) b_points_below (defBody (top 8)) = true := by decide +kernel
/-! ring_row (level 1) -/
def b_ring_row : List Iv.Sm := [
  .asg (.nm 2) (.bi1 .sorted (.lc [3] (.tup (.cons (.bin .mod (.bin .mul (.var 3) (.idx (.var 0) (.int 0))) (.idx (.var 0) (.int 1))) (.cons (.var 3) .nil))) (.nm 3) (.rg1 (.var 1)) none)),
  .ret (.bi1 .tuple (.lc [4, 3] (.var 3) (.tup [(.nm 4), (.nm 3)]) (.seq (.var 2)) none))]
def M_ring_row : Iv.Nm := ⟨["x", "many", "places", "k", "place"], []⟩
noncomputable def T_ring_row : Iv.Tab := []
@[irreducible] noncomputable def f_ring_row : Iv.Fn := Iv.fnOf T_ring_row 5 2 b_ring_row
theorem d_ring_row : f_ring_row = Iv.fnOf T_ring_row 5 2 b_ring_row := by unfold f_ring_row; rfl
theorem s_ring_row : FnScope M_ring_row.N ["x", "many"] (defScope (top 7)) := ⟨rfl, rfl, rfl, by decide +kernel, rfl, by decide +kernel, by decide +kernel⟩
theorem c_ring_row : Iv.chkSs M_ring_row (defScope (top 7)) b_ring_row (defBody (top 7)) = true := by decide +kernel
/-! _law_ring_right (level 3) -/
def b_l_ring_right : List Iv.Sm := [
  .asg (.tup [(.nm 7), (.nm 8)]) (.var 1),
  .asg (.nm 2) (.bin .add (.int 2) (.call 0 (.cons (.var 0) (.cons (.bin .sub (.bi2 .min2 (.var 8) (.int 300)) (.int 1)) .nil)))),
  .asg (.nm 3) (.call 1 (.cons (.var 0) (.cons (.lst (.cons (.tup (.cons (.int 0) (.cons (.int 1) .nil))) (.cons (.tup (.cons (.int 1) (.cons (.int 1) .nil))) (.cons (.call 3 (.cons (.var 0) (.cons (.int 40) .nil))) (.cons (.call 2 (.cons (.var 1) (.cons (.call 0 (.cons (.var 0) (.cons (.var 8) .nil))) .nil))) .nil))))) .nil))),
  .asg (.tup [(.nm 9), (.nm 10)]) (.var 3),
  .asg (.nm 4) (.bin .sub (.call 4 (.cons (.var 2) (.cons (.var 7) (.cons (.int 0) (.cons (.var 8) .nil))))) (.call 4 (.cons (.var 2) (.cons (.bin .mul (.var 7) (.var 10)) (.cons (.bin .sub (.int 0) (.bin .mul (.var 9) (.var 8))) (.cons (.bin .mul (.var 8) (.var 10)) .nil)))))),
  .cond (.cmp .ne (.call 5 (.cons (.var 1) (.cons (.var 2) (.cons (.var 3) .nil)))) (.var 4)) [.ret (.bl false)] [],
  .asg (.nm 5) (.int 0),
  .for (.nm 6) (.seq (.call 6 (.cons (.var 1) (.cons (.var 2) .nil)))) [.asg (.tup [(.nm 11), (.nm 12)]) (.call 2 (.cons (.var 1) (.cons (.var 6) .nil))), .asg (.nm 5) (.bin .add (.var 5) (.bin .mul (.var 11) (.bin .fdiv (.var 8) (.var 12))))],
  .ret (.cmp .eq (.var 5) (.bin .sub (.bin .fdiv (.bin .mul (.bin .mul (.var 7) (.var 2)) (.bin .sub (.var 2) (.int 1))) (.int 2)) (.bin .mul (.var 8) (.call 4 (.cons (.var 2) (.cons (.var 7) (.cons (.int 0) (.cons (.var 8) .nil))))))))]
def M_l_ring_right : Iv.Nm := ⟨["source", "x", "many", "y", "due", "top", "k", "p", "q", "r", "s", "a", "b"], ["_law_pick", "_law_of", "ring_place", "_law_between", "whole_sum", "points_below", "ring_row"]⟩
noncomputable def T_l_ring_right : Iv.Tab := [("_law_pick", f_l_pick), ("_law_of", f_l_of), ("ring_place", f_ring_place), ("_law_between", f_l_between), ("whole_sum", f_whole_sum), ("points_below", f_points_below), ("ring_row", f_ring_row)]
@[irreducible] noncomputable def f_l_ring_right : Iv.Fn := Iv.fnOf T_l_ring_right 13 2 b_l_ring_right
theorem d_l_ring_right : f_l_ring_right = Iv.fnOf T_l_ring_right 13 2 b_l_ring_right := by unfold f_l_ring_right; rfl
theorem s_l_ring_right : FnScope M_l_ring_right.N ["source", "x"] (defScope (top 38)) := ⟨rfl, rfl, rfl, by decide +kernel, rfl, by decide +kernel, by decide +kernel⟩
theorem c_l_ring_right : Iv.chkSs M_l_ring_right (defScope (top 38)) b_l_ring_right (defBody (top 38)) = true := by decide +kernel
/-! law (level 4) -/
def b_law : List Iv.Sm := [
  .asg (.nm 1) (.call 0 (.cons (.var 0) .nil)),
  .for (.nm 2) (.rg1 (.int 2)) [.par [(.nm 7), (.nm 8)] (.cons (.call 2 (.cons (.var 1) (.cons (.int 1000) .nil))) (.cons (.bin .add (.int 1) (.call 1 (.cons (.var 1) (.cons (.int 2000) .nil)))) .nil)), .asg (.nm 3) (.call 3 (.cons (.bin .add (.var 8) (.int 1)) (.cons (.idx (.var 7) (.int 0)) (.cons (.int 0) (.cons (.idx (.var 7) (.int 1)) .nil))))), .cond (.or (.cmp .ne (.call 5 (.cons (.var 8) (.cons (.var 7) .nil))) (.var 3)) (.cmp .ne (.idx (.call 4 (.cons (.bin .add (.var 8) (.int 1)) (.cons (.idx (.var 7) (.int 0)) (.cons (.int 0) (.cons (.idx (.var 7) (.int 1)) .nil))))) (.int 0)) (.var 3))) [.ret (.bl false)] [], .asg (.nm 4) (.bin .add (.int 1) (.call 1 (.cons (.var 1) (.cons (.int 150) .nil)))), .cond (.or (.not (.call 8 (.cons (.var 4) (.cons (.var 7) .nil)))) (.cmp .ne (.call 6 (.cons (.var 4) .nil)) (.bin .add (.call 7 (.cons (.var 4) (.cons (.tup (.cons (.int 1) (.cons (.int 1) .nil))) .nil))) (.int 1)))) [.ret (.bl false)] [], .asg (.nm 5) (.call 7 (.cons (.var 4) (.cons (.var 7) .nil))), .asg (.nm 6) (.call 9 (.cons (.var 4) (.cons (.var 5) .nil))), .cond (.or (.cmp .gt (.bin .mul (.idx (.var 6) (.int 0)) (.idx (.var 7) (.int 1))) (.bin .mul (.idx (.var 7) (.int 0)) (.idx (.var 6) (.int 1)))) (.or (.cmp .notb (.call 10 (.cons (.var 4) (.cons (.var 6) .nil))) (.bl true)) (.cmp .ne (.cmp .le (.idx (.var 7) (.int 1)) (.var 4)) (.cmp .eq (.var 6) (.var 7))))) [.ret (.bl false)] [], .cond (.or (.not (.call 12 (.cons (.var 1) (.cons (.var 7) .nil)))) (.not (.call 11 (.cons (.var 1) (.cons (.var 7) .nil))))) [.ret (.bl false)] []],
  .ret (.bl true)]
def M_law : Iv.Nm := ⟨["script", "source", "lap", "total", "few", "place", "at", "x", "n"], ["_law_open_cells", "_law_pick", "_law_between", "whole_sum", "whole_sums", "parts_up_to", "row_size", "place_in_row", "_law_places_right", "member_at", "is_member", "_law_floors_right", "_law_ring_right"]⟩
noncomputable def T_law : Iv.Tab := [("_law_open_cells", f_l_open_cells), ("_law_pick", f_l_pick), ("_law_between", f_l_between), ("whole_sum", f_whole_sum), ("whole_sums", f_whole_sums), ("parts_up_to", f_parts_up_to), ("row_size", f_row_size), ("place_in_row", f_place_in_row), ("_law_places_right", f_l_places_right), ("member_at", f_member_at), ("is_member", f_is_member), ("_law_floors_right", f_l_floors_right), ("_law_ring_right", f_l_ring_right)]
@[irreducible] noncomputable def f_law : Iv.Fn := Iv.fnOf T_law 9 1 b_law
theorem d_law : f_law = Iv.fnOf T_law 9 1 b_law := by unfold f_law; rfl
theorem s_law : FnScope M_law.N ["script"] (defScope (top 40)) := ⟨rfl, rfl, rfl, by decide +kernel, rfl, by decide +kernel, by decide +kernel⟩
theorem c_law : Iv.chkSs M_law (defScope (top 40)) b_law (defBody (top 40)) = true := by decide +kernel
end K42
end

section
set_option Elab.async false
set_option linter.all false
set_option maxRecDepth 100000
namespace K42
/-! _law_open_cells -/
noncomputable def m_l_open_cells_b1 (s : Int) (x : Int) : Option Int := (if Iv.mulOk s (69069 : Int) = true then (if Iv.mulOk x (31 : Int) = true then (if (2147483629 : Int) = 0 then none else (some (Iv.fmodI (((s * (69069 : Int)) + (x * (31 : Int))) + (5 : Int)) (2147483629 : Int)))) else none) else none)
noncomputable def m_l_open_cells_c2 (x : Int) : Option (Option Int) := (some (some (if x < 0 then -x else x)))
noncomputable def m_l_open_cells (ns : List Int) : Option Iv.Src := (Iv.andO (Iv.foldO (m_l_open_cells_b1) ns (11 : Int)) fun w1 => (Iv.andO (Iv.lcO (m_l_open_cells_c2 ) ns 0) fun w2 => (some (Iv.Src.mk (List.reverse w2) (1 : Int) w1 (0 : Int)))))
theorem e_l_open_cells (ns : List Int) : (Iv.andO (m_l_open_cells ns ) fun r => some (.val .src, ⟨ns, some r⟩)) ⊆ f_l_open_cells [.scr] ⟨ns, none⟩ := by
  rw [d_l_open_cells]
  refine Iv.fn_go rfl ?_
  unfold m_l_open_cells
  refine Iv.p_for (R := fun s4 env => ∃ j2 : Iv.Slot, env = [.val .scr, .val (.int s4), j2, .none]) (e := Iv.D.int) ?_ rfl ⟨_, rfl⟩ ?_
  · rintro s4 x3 _ nx6 F5 ⟨j2, rfl⟩ hF5
    unfold m_l_open_cells_b1
    refine Iv.p_if ?_
    refine Iv.p_if ?_
    refine Iv.p_ifn ?_
    exact hF5 _ _ ⟨_, rfl⟩
  · rintro w1 _ ⟨j2, rfl⟩
    refine Iv.p_lc (e := Iv.D.int) (e' := Iv.D.int) rfl (fun x9 acc kk F hF hF0 => ?_) (fun w8 => ?_)
    · unfold m_l_open_cells_c2
      exact hF _
    · refine Iv.p_rev ?_
      refine Iv.p_ints ?_
      exact Iv.le_rfl
/-! _law_pick -/
noncomputable def m_l_pick_t1 (s : Iv.Src) : Option Bool := (Iv.andO (Iv.selB (decide (s.left < (2 : Int))) (some (decide ((0 : Int) < (s.cells.length : Int)))) (some false)) fun w2 => (some w2))
noncomputable def m_l_pick_b1 (s : Iv.Src) : Option Iv.Src := (Iv.andO (Iv.lastI s.cells) fun w1 => (some (Iv.Src.mk w1.2 w1.1 s.mixed s.turn)))
noncomputable def m_l_pick (σ : Iv.Src) (v_most : Int) : Option (Int × Iv.Src) := (Iv.selB (decide (v_most < (2 : Int))) (some ((0 : Int), σ)) (Iv.andO (Iv.iterO (m_l_pick_t1) (m_l_pick_b1) 1000000000000000000000000000000 σ) fun w3 => (Iv.selB (decide ((1 : Int) < w3.left)) (if Iv.divOk v_most = true then (if v_most = 0 then none else (some ((Iv.fmodI w3.left v_most), (Iv.Src.mk w3.cells (Iv.fdivI w3.left v_most) w3.mixed w3.turn)))) else none) (if Iv.mulOk (w3.turn + (1 : Int)) (104729 : Int) = true then (if (998244353 : Int) = 0 then none else (if Iv.mulOk (Iv.fmodI (w3.mixed + ((w3.turn + (1 : Int)) * (104729 : Int))) (998244353 : Int)) (Iv.fmodI (w3.mixed + ((w3.turn + (1 : Int)) * (104729 : Int))) (998244353 : Int)) = true then (if Iv.mulOk (w3.turn + (1 : Int)) (17 : Int) = true then (if (2147483647 : Int) = 0 then none else (if v_most = 0 then none else (some ((Iv.fmodI (Iv.fdivI (Iv.fmodI (((Iv.fmodI (w3.mixed + ((w3.turn + (1 : Int)) * (104729 : Int))) (998244353 : Int)) * (Iv.fmodI (w3.mixed + ((w3.turn + (1 : Int)) * (104729 : Int))) (998244353 : Int))) + ((w3.turn + (1 : Int)) * (17 : Int))) (2147483647 : Int)) (16 : Int)) v_most), (Iv.Src.mk w3.cells w3.left w3.mixed (w3.turn + (1 : Int))))))) else none) else none)) else none))))
theorem e_l_pick (ns : List Int) (σ : Iv.Src) (v_most : Int) : (Iv.andO (m_l_pick σ v_most) fun r => some (.val (.int r.1), ⟨ns, some r.2⟩)) ⊆ f_l_pick [.src, (.int v_most)] ⟨ns, some σ⟩ := by
  rw [d_l_pick]
  refine Iv.fn_go rfl ?_
  unfold m_l_pick
  refine Iv.p_sel ?_ ?_
  · exact Iv.le_rfl
  · refine Iv.p_whlS (R := fun s3 env S0 => env = [.val .src, .val (.int v_most), .val .cells, .none, .none, .none] ∧ (Iv.Sta.mk ns (some s3)) = S0) ?_ ?_ ⟨rfl, rfl⟩ ?_
    · rintro s3 _ _ kb6 F4 ⟨rfl, rfl⟩ hF4
      unfold m_l_pick_t1
      refine Iv.p_assoc ?_
      refine Iv.p_sel ?_ ?_
      · refine Iv.p_leaf ?_
        exact hF4 _
      · refine Iv.p_leaf ?_
        exact hF4 _
    · rintro s3 _ _ nx5 F4 ⟨rfl, rfl⟩ hF4
      unfold m_l_pick_b1
      refine Iv.p_pop (fun w7 => ?_)
      exact hF4 _ _ _ ⟨rfl, rfl⟩
    · rintro w1 _ _ ⟨rfl, rfl⟩
      refine Iv.p_sel ?_ ?_
      · refine Iv.p_ifd (j := v_most) ?_
        refine Iv.p_ifn ?_
        exact Iv.le_rfl
      · refine Iv.p_if ?_
        refine Iv.p_ifn ?_
        refine Iv.p_if ?_
        refine Iv.p_if ?_
        refine Iv.p_ifn ?_
        refine Iv.p_ifn ?_
        exact Iv.le_rfl
/-! is_integer_value -/
noncomputable def m_is_integer_value (v_value : Int) : Option Bool := (Iv.andO (some true) fun w1 => (some w1))
theorem e_is_integer_value (v_value : Int) (S : Iv.Sta) : (Iv.andO (m_is_integer_value v_value) fun r => some (.val (.bl r), S)) ⊆ f_is_integer_value [(.int v_value)] S := by
  rw [d_is_integer_value]
  refine Iv.fn_go rfl ?_
  unfold m_is_integer_value
  refine Iv.p_assoc ?_
  refine Iv.p_leaf ?_
  exact Iv.le_rfl
/-! is_fraction -/
noncomputable def m_is_fraction_c1 (x : Int) : Option (Option Bool) := (Iv.andO (m_is_integer_value x) fun w1 => (some (some w1)))
noncomputable def m_is_fraction (v_value : (Int × Int)) : Option Bool := (Iv.andO (Iv.andO (Iv.andO (Iv.lcO (m_is_fraction_c1 ) [v_value.1, v_value.2] 0) fun w2 => (some (!(List.all w2 id)))) fun w3 => (some w3)) fun w4 => (Iv.selB w4 (some false) (Iv.andO (Iv.selB (decide ((0 : Int) < v_value.2)) (some (decide (((Int.gcd v_value.1 v_value.2 : Nat) : Int) = (1 : Int)))) (some false)) fun w5 => (some w5))))
theorem e_is_fraction (v_value : (Int × Int)) (S : Iv.Sta) : (Iv.andO (m_is_fraction v_value) fun r => some (.val (.bl r), S)) ⊆ f_is_fraction [((Iv.e2 Iv.D.int Iv.D.int) v_value)] S := by
  rw [d_is_fraction]
  refine Iv.fn_go rfl ?_
  unfold m_is_fraction
  refine Iv.p_assoc ?_
  refine Iv.p_assoc ?_
  refine Iv.p_lenN (n := 2) rfl ?_
  refine Iv.p_lc (e := Iv.D.int) (e' := Iv.D.bl) rfl (fun x2 acc kk F hF hF0 => ?_) (fun w1 => ?_)
  · unfold m_is_fraction_c1
    refine Iv.p_call (e_is_integer_value _ _ ) (fun w3 => ?_)
    exact hF _
  · refine Iv.p_all ?_
    refine Iv.p_leaf ?_
    refine Iv.p_leaf ?_
    refine Iv.p_sel ?_ ?_
    · exact Iv.le_rfl
    · refine Iv.p_assoc ?_
      refine Iv.p_sel ?_ ?_
      · refine Iv.p_leaf ?_
        exact Iv.le_rfl
      · refine Iv.p_leaf ?_
        exact Iv.le_rfl
/-! fraction_of -/
noncomputable def m_fraction_of (v_p : Int) (v_q : Int) : Option (Int × Int) := (Iv.andO (Iv.selB (decide ((0 : Int) < v_q)) (some ((Int.gcd v_p v_q : Nat) : Int)) (some (-((Int.gcd v_p v_q : Nat) : Int)))) fun w1 => (if Iv.divOk w1 = true then (if Iv.divOk w1 = true then (some ((Iv.fdivI v_p w1), (Iv.fdivI v_q w1))) else none) else none))
theorem e_fraction_of (v_p : Int) (v_q : Int) (S : Iv.Sta) : (Iv.andO (m_fraction_of v_p v_q) fun r => some (.val ((Iv.e2 Iv.D.int Iv.D.int) r), S)) ⊆ f_fraction_of [(.int v_p), (.int v_q)] S := by
  rw [d_fraction_of]
  refine Iv.fn_go rfl ?_
  unfold m_fraction_of
  refine Iv.p_assoc ?_
  refine Iv.p_sel ?_ ?_
  · refine Iv.p_leaf ?_
    refine Iv.p_ifd (j := ((Int.gcd v_p v_q : Nat) : Int)) ?_
    refine Iv.p_ifd (j := ((Int.gcd v_p v_q : Nat) : Int)) ?_
    exact Iv.le_rfl
  · refine Iv.p_leaf ?_
    refine Iv.p_ifd (j := (-((Int.gcd v_p v_q : Nat) : Int))) ?_
    refine Iv.p_ifd (j := (-((Int.gcd v_p v_q : Nat) : Int))) ?_
    exact Iv.le_rfl
/-! ring_place -/
noncomputable def m_ring_place (v_x : (Int × Int)) (v_k : Int) : Option (Int × Int) := (if Iv.mulOk v_k v_x.1 = true then (if v_x.2 = 0 then none else (Iv.andO (m_fraction_of (Iv.fmodI (v_k * v_x.1) v_x.2) v_x.2) fun w1 => (some w1))) else none)
theorem e_ring_place (v_x : (Int × Int)) (v_k : Int) (S : Iv.Sta) : (Iv.andO (m_ring_place v_x v_k) fun r => some (.val ((Iv.e2 Iv.D.int Iv.D.int) r), S)) ⊆ f_ring_place [((Iv.e2 Iv.D.int Iv.D.int) v_x), (.int v_k)] S := by
  rw [d_ring_place]
  refine Iv.fn_go rfl ?_
  unfold m_ring_place
  refine Iv.p_if ?_
  refine Iv.p_ifn ?_
  refine Iv.p_call (e_fraction_of _ _ _ ) (fun w1 => ?_)
  exact Iv.le_rfl
/-! ring_row -/
noncomputable def m_ring_row_c1 (v_x : (Int × Int)) (x : Int) : Option (Option (Int × Int)) := (if Iv.mulOk x v_x.1 = true then (if v_x.2 = 0 then none else (some (some ((Iv.fmodI (x * v_x.1) v_x.2), x)))) else none)
noncomputable def m_ring_row_c2 (x : (Int × Int)) : Option (Option Int) := (some (some x.2))
noncomputable def m_ring_row (v_x : (Int × Int)) (v_many : Int) : Option (List Int) := (if Iv.rgOk v_many = true then (Iv.andO (Iv.lcO (m_ring_row_c1 v_x) (Iv.upTo 0 (v_many).toNat) 0) fun w1 => (Iv.andO (Iv.lcO (m_ring_row_c2 ) (Iv.psort w1) 0) fun w2 => (some w2))) else none)
theorem e_ring_row (v_x : (Int × Int)) (v_many : Int) (S : Iv.Sta) : (Iv.andO (m_ring_row v_x v_many) fun r => some (.val (.tup (List.map Iv.D.int r)), S)) ⊆ f_ring_row [((Iv.e2 Iv.D.int Iv.D.int) v_x), (.int v_many)] S := by
  rw [d_ring_row]
  refine Iv.fn_go rfl ?_
  unfold m_ring_row
  refine Iv.p_if ?_
  refine Iv.p_lc (e := Iv.D.int) (e' := (Iv.e2 Iv.D.int Iv.D.int)) (Iv.rangeD_up _ _) (fun x2 acc kk F hF hF0 => ?_) (fun w1 => ?_)
  · unfold m_ring_row_c1
    refine Iv.p_if ?_
    refine Iv.p_ifn ?_
    exact hF _
  · refine Iv.p_sortP ?_
    refine Iv.p_lc (e := (Iv.e2 Iv.D.int Iv.D.int)) (e' := Iv.D.int) rfl (fun x4 acc kk F hF hF0 => ?_) (fun w3 => ?_)
    · unfold m_ring_row_c2
      exact hF _
    · exact Iv.le_rfl
/-! points_below -/
noncomputable def m_points_below_c1 (v_x : (Int × Int)) (v_y : (Int × Int)) (x : Int) : Option (Option Int) := (if Iv.mulOk x v_x.1 = true then (if v_x.2 = 0 then none else (if Iv.mulOk (Iv.fmodI (x * v_x.1) v_x.2) v_y.2 = true then (if Iv.mulOk v_y.1 v_x.2 = true then (Iv.selB (decide (((Iv.fmodI (x * v_x.1) v_x.2) * v_y.2) < (v_y.1 * v_x.2))) (some (some x)) (some none)) else none) else none)) else none)
noncomputable def m_points_below (v_x : (Int × Int)) (v_many : Int) (v_y : (Int × Int)) : Option Int := (if Iv.rgOk v_many = true then (Iv.andO (Iv.lcO (m_points_below_c1 v_x v_y) (Iv.upTo 0 (v_many).toNat) 0) fun w1 => (some (w1.length : Int))) else none)
theorem e_points_below (v_x : (Int × Int)) (v_many : Int) (v_y : (Int × Int)) (S : Iv.Sta) : (Iv.andO (m_points_below v_x v_many v_y) fun r => some (.val (.int r), S)) ⊆ f_points_below [((Iv.e2 Iv.D.int Iv.D.int) v_x), (.int v_many), ((Iv.e2 Iv.D.int Iv.D.int) v_y)] S := by
  rw [d_points_below]
  refine Iv.fn_go rfl ?_
  unfold m_points_below
  refine Iv.p_if ?_
  refine Iv.p_lc (e := Iv.D.int) (e' := Iv.D.int) (Iv.rangeD_up _ _) (fun x2 acc kk F hF hF0 => ?_) (fun w1 => ?_)
  · unfold m_points_below_c1
    refine Iv.p_if ?_
    refine Iv.p_ifn ?_
    refine Iv.p_if ?_
    refine Iv.p_if ?_
    refine Iv.p_sel ?_ ?_
    · exact hF _
    · exact hF0
  · refine Iv.p_len ?_
    exact Iv.le_rfl
/-! member_behind -/
noncomputable def m_member_behind (v_n : Int) (v_y : (Int × Int)) (v_z : (Int × Int)) : Option (Int × Int) := (if Iv.divOk v_z.2 = true then (if Iv.mulOk (Iv.fdivI (v_n + v_y.2) v_z.2) v_z.1 = true then (if Iv.mulOk (Iv.fdivI (v_n + v_y.2) v_z.2) v_z.2 = true then (some ((((Iv.fdivI (v_n + v_y.2) v_z.2) * v_z.1) - v_y.1), (((Iv.fdivI (v_n + v_y.2) v_z.2) * v_z.2) - v_y.2))) else none) else none) else none)
theorem e_member_behind (v_n : Int) (v_y : (Int × Int)) (v_z : (Int × Int)) (S : Iv.Sta) : (Iv.andO (m_member_behind v_n v_y v_z) fun r => some (.val ((Iv.e2 Iv.D.int Iv.D.int) r), S)) ⊆ f_member_behind [(.int v_n), ((Iv.e2 Iv.D.int Iv.D.int) v_y), ((Iv.e2 Iv.D.int Iv.D.int) v_z)] S := by
  rw [d_member_behind]
  refine Iv.fn_go rfl ?_
  unfold m_member_behind
  refine Iv.p_ifd (j := v_z.2) ?_
  refine Iv.p_if ?_
  refine Iv.p_if ?_
  exact Iv.le_rfl
/-! farey_row -/
noncomputable def m_farey_row_t1 (v_n : Int) (s : (List (Int × Int))) : Option Bool := (Iv.andO (Iv.getL s (-(1 : Int))) fun w4 => (some (!(decide (w4 = ((1 : Int), (1 : Int)))))))
noncomputable def m_farey_row_b1 (v_n : Int) (s : (List (Int × Int))) : Option (List (Int × Int)) := (Iv.andO (Iv.getL s (-(2 : Int))) fun w1 => (Iv.andO (Iv.getL s (-(1 : Int))) fun w2 => (Iv.andO (m_member_behind v_n w1 w2) fun w3 => (if s.length < Iv.LINE then (some (s ++ [w3])) else none))))
noncomputable def m_farey_row (v_n : Int) : Option (List (Int × Int)) := (Iv.andO (Iv.iterO (m_farey_row_t1 v_n) (m_farey_row_b1 v_n) 1000000000000000000000000000000 [((0 : Int), (1 : Int)), ((1 : Int), v_n)]) fun w5 => (some w5))
theorem e_farey_row (v_n : Int) (S : Iv.Sta) : (Iv.andO (m_farey_row v_n) fun r => some (.val (.tup (List.map (Iv.e2 Iv.D.int Iv.D.int) r)), S)) ⊆ f_farey_row [(.int v_n)] S := by
  rw [d_farey_row]
  refine Iv.fn_go rfl ?_
  unfold m_farey_row
  refine Iv.p_whl (R := fun s3 env => env = [.val (.int v_n), .own (List.map (Iv.e2 Iv.D.int Iv.D.int) s3)]) ?_ ?_ rfl ?_
  · rintro s3 _ kb6 F4 rfl hF4
    unfold m_farey_row_t1
    refine Iv.p_item (fun w10 => ?_)
    refine Iv.p_eq (e := (Iv.e2 Iv.D.int Iv.D.int)) (Iv.eqOk_2 (Iv.eqOk_int _) (Iv.eqOk_int _)) (a := w10) (b := ((1 : Int), (1 : Int))) ?_
    exact hF4 _
  · rintro s3 _ nx5 F4 rfl hF4
    unfold m_farey_row_b1
    refine Iv.p_item (fun w7 => ?_)
    refine Iv.p_item (fun w8 => ?_)
    refine Iv.p_call (e_member_behind _ _ _ _ ) (fun w9 => ?_)
    refine Iv.p_push (xs := s3) (x := w9) (e := (Iv.e2 Iv.D.int Iv.D.int)) ?_
    exact hF4 _ _ rfl
  · rintro w1 _ rfl
    exact Iv.le_rfl
/-! is_member -/
noncomputable def m_is_member (v_n : Int) (v_value : (Int × Int)) : Option Bool := (Iv.andO (Iv.andO (m_is_fraction v_value) fun w1 => (Iv.selB w1 (Iv.andO (Iv.selB (decide (v_value.2 ≤ v_n)) (Iv.andO (Iv.selB (decide ((0 : Int) ≤ v_value.1)) (some (decide (v_value.1 ≤ v_value.2))) (some false)) fun w2 => (some w2)) (some false)) fun w3 => (some w3)) (some false))) fun w4 => (some w4))
theorem e_is_member (v_n : Int) (v_value : (Int × Int)) (S : Iv.Sta) : (Iv.andO (m_is_member v_n v_value) fun r => some (.val (.bl r), S)) ⊆ f_is_member [(.int v_n), ((Iv.e2 Iv.D.int Iv.D.int) v_value)] S := by
  rw [d_is_member]
  refine Iv.fn_go rfl ?_
  unfold m_is_member
  refine Iv.p_assoc ?_
  refine Iv.p_call (e_is_fraction _ _ ) (fun w1 => ?_)
  refine Iv.p_sel ?_ ?_
  · refine Iv.p_assoc ?_
    refine Iv.p_sel ?_ ?_
    · refine Iv.p_assoc ?_
      refine Iv.p_sel ?_ ?_
      · refine Iv.p_leaf ?_
        refine Iv.p_leaf ?_
        refine Iv.p_leaf ?_
        exact Iv.le_rfl
      · refine Iv.p_leaf ?_
        refine Iv.p_leaf ?_
        refine Iv.p_leaf ?_
        exact Iv.le_rfl
    · refine Iv.p_leaf ?_
      refine Iv.p_leaf ?_
      exact Iv.le_rfl
  · refine Iv.p_leaf ?_
    exact Iv.le_rfl
/-! count_apart -/
noncomputable def m_count_apart_t2 (v_d : Int) (s : Int) : Option Bool := (if v_d = 0 then none else (some (decide ((Iv.fmodI s v_d) = (0 : Int)))))
noncomputable def m_count_apart_b2 (v_d : Int) (s : Int) : Option Int := (if Iv.divOk v_d = true then (some (Iv.fdivI s v_d)) else none)
noncomputable def m_count_apart_t1 (s : (Int × Int × Int)) : Option Bool := (if Iv.mulOk s.2.2 s.2.2 = true then (some (decide ((s.2.2 * s.2.2) ≤ s.2.1))) else none)
noncomputable def m_count_apart_b1 (s : (Int × Int × Int)) : Option (Int × Int × Int) := (Iv.andO (if s.2.2 = 0 then none else (Iv.selB (decide ((Iv.fmodI s.2.1 s.2.2) = (0 : Int))) (if Iv.divOk s.2.2 = true then (if Iv.mulOk (Iv.fdivI s.1 s.2.2) (s.2.2 - (1 : Int)) = true then (Iv.andO (Iv.iterO (m_count_apart_t2 s.2.2) (m_count_apart_b2 s.2.2) 1000000000000000000000000000000 s.2.1) fun w1 => (some (((Iv.fdivI s.1 s.2.2) * (s.2.2 - (1 : Int))), w1))) else none) else none) (some (s.1, s.2.1)))) fun w2 => (some (w2.1, w2.2, (s.2.2 + (1 : Int)))))
noncomputable def m_count_apart (v_k : Int) : Option Int := (Iv.andO (Iv.iterO (m_count_apart_t1) (m_count_apart_b1) 1000000000000000000000000000000 (v_k, v_k, (2 : Int))) fun w3 => (Iv.andO (Iv.selB (decide ((1 : Int) < w3.2.1)) (if Iv.divOk w3.2.1 = true then (if Iv.mulOk (Iv.fdivI w3.1 w3.2.1) (w3.2.1 - (1 : Int)) = true then (some ((Iv.fdivI w3.1 w3.2.1) * (w3.2.1 - (1 : Int)))) else none) else none) (some w3.1)) fun w4 => (some w4)))
theorem e_count_apart (v_k : Int) (S : Iv.Sta) : (Iv.andO (m_count_apart v_k) fun r => some (.val (.int r), S)) ⊆ f_count_apart [(.int v_k)] S := by
  rw [d_count_apart]
  refine Iv.fn_go rfl ?_
  unfold m_count_apart
  refine Iv.p_whl (R := fun s3 env => env = [.val (.int v_k), .val (.int s3.1), .val (.int s3.2.1), .val (.int s3.2.2)]) ?_ ?_ rfl ?_
  · rintro s3 _ kb6 F4 rfl hF4
    unfold m_count_apart_t1
    refine Iv.p_if ?_
    exact hF4 _
  · rintro s3 _ nx5 F4 rfl hF4
    unfold m_count_apart_b1
    refine Iv.p_assoc ?_
    refine Iv.p_ifn ?_
    refine Iv.p_sel ?_ ?_
    · refine Iv.p_ifd (j := s3.2.2) ?_
      refine Iv.p_if ?_
      refine Iv.p_whl (R := fun s9 env => env = [.val (.int v_k), .val (.int ((Iv.fdivI s3.1 s3.2.2) * (s3.2.2 - (1 : Int)))), .val (.int s9), .val (.int s3.2.2)]) ?_ ?_ rfl ?_
      · rintro s9 _ kb12 F10 rfl hF10
        unfold m_count_apart_t2
        refine Iv.p_ifn ?_
        exact hF10 _
      · rintro s9 _ nx11 F10 rfl hF10
        unfold m_count_apart_b2
        refine Iv.p_ifd (j := s3.2.2) ?_
        exact hF10 _ _ rfl
      · rintro w7 _ rfl
        refine Iv.p_leaf ?_
        exact hF4 _ _ rfl
    · refine Iv.p_leaf ?_
      exact hF4 _ _ rfl
  · rintro w1 _ rfl
    refine Iv.p_assoc ?_
    refine Iv.p_sel ?_ ?_
    · refine Iv.p_ifd (j := w1.2.1) ?_
      refine Iv.p_if ?_
      refine Iv.p_leaf ?_
      exact Iv.le_rfl
    · refine Iv.p_leaf ?_
      exact Iv.le_rfl
/-! mobius_of -/
noncomputable def m_mobius_of_t1 (s : (Int × Int × Int)) : Option Bool := (if Iv.mulOk s.2.2 s.2.2 = true then (some (decide ((s.2.2 * s.2.2) ≤ s.1))) else none)
noncomputable def m_mobius_of_b1 (s : (Int × Int × Int)) : Option (Iv.Ext (Int × Int × Int) Int) := (if s.2.2 = 0 then none else (Iv.selB (decide ((Iv.fmodI s.1 s.2.2) = (0 : Int))) (if Iv.divOk s.2.2 = true then (if s.2.2 = 0 then none else (Iv.selB (decide ((Iv.fmodI (Iv.fdivI s.1 s.2.2) s.2.2) = (0 : Int))) (some (Iv.Ext.out (0 : Int))) (some (Iv.Ext.go ((Iv.fdivI s.1 s.2.2), (-s.2.1), (s.2.2 + (1 : Int))))))) else none) (some (Iv.Ext.go (s.1, s.2.1, (s.2.2 + (1 : Int)))))))
noncomputable def m_mobius_of (v_d : Int) : Option Int := (Iv.andO (Iv.iterX (m_mobius_of_t1) (m_mobius_of_b1) 1000000000000000000000000000000 (v_d, (1 : Int), (2 : Int))) fun y2 => Iv.Ext.on y2 (fun w1 => (Iv.andO (Iv.selB (decide ((1 : Int) < w1.1)) (some (-w1.2.1)) (some w1.2.1)) fun w4 => (some w4))) (fun r3 => (some r3)))
theorem e_mobius_of (v_d : Int) (S : Iv.Sta) : (Iv.andO (m_mobius_of v_d) fun r => some (.val (.int r), S)) ⊆ f_mobius_of [(.int v_d)] S := by
  rw [d_mobius_of]
  refine Iv.fn_go rfl ?_
  unfold m_mobius_of
  refine Iv.p_whlX (R := fun s5 env S0 => env = [.val (.int s5.1), .val (.int s5.2.1), .val (.int s5.2.2)] ∧ S = S0) ?_ ?_ ?_ ⟨rfl, rfl⟩
  · rintro s5 _ _ kb8 F6 ⟨rfl, rfl⟩ hF6
    unfold m_mobius_of_t1
    refine Iv.p_if ?_
    exact hF6 _
  · rintro s5 _ _ nx7 F6 ⟨rfl, rfl⟩ hF6 hbF6 hoF6
    unfold m_mobius_of_b1
    refine Iv.p_ifn ?_
    refine Iv.p_sel ?_ ?_
    · refine Iv.p_ifd (j := s5.2.2) ?_
      refine Iv.p_ifn ?_
      refine Iv.p_sel ?_ ?_
      · exact (Iv.le_trans (hoF6 _) Iv.le_rfl)
      · exact hF6 _ _ _ ⟨rfl, rfl⟩
    · exact hF6 _ _ _ ⟨rfl, rfl⟩
  · rintro w1 _ _ ⟨rfl, rfl⟩
    refine Iv.p_assoc ?_
    refine Iv.p_sel ?_ ?_
    · refine Iv.p_leaf ?_
      exact Iv.le_rfl
    · refine Iv.p_leaf ?_
      exact Iv.le_rfl
/-! row_size -/
noncomputable def m_row_size_c1 (x : Int) : Option (Option Int) := (Iv.andO (m_count_apart x) fun w1 => (some (some w1)))
noncomputable def m_row_size (v_n : Int) : Option Int := (if (Iv.rgOk (1 : Int) && Iv.rgOk (v_n + (1 : Int))) = true then (Iv.andO (Iv.lcO (m_row_size_c1 ) (Iv.upTo (1 : Int) ((v_n + (1 : Int)) - (1 : Int)).toNat) 0) fun w2 => (some ((1 : Int) + (Iv.sumI w2)))) else none)
theorem e_row_size (v_n : Int) (S : Iv.Sta) : (Iv.andO (m_row_size v_n) fun r => some (.val (.int r), S)) ⊆ f_row_size [(.int v_n)] S := by
  rw [d_row_size]
  refine Iv.fn_go rfl ?_
  unfold m_row_size
  refine Iv.p_if ?_
  refine Iv.p_lc (e := Iv.D.int) (e' := Iv.D.int) (Iv.rangeD_up _ _) (fun x2 acc kk F hF hF0 => ?_) (fun w1 => ?_)
  · unfold m_row_size_c1
    refine Iv.p_call (e_count_apart _ _ ) (fun w3 => ?_)
    exact hF _
  · refine Iv.p_sum ?_
    exact Iv.le_rfl
/-! parts_up_to -/
noncomputable def m_parts_up_to_c1 (v_x : (Int × Int)) (x : Int) : Option (Option Int) := (if Iv.mulOk v_x.1 x = true then (if Iv.divOk v_x.2 = true then (some (some (Iv.fdivI (v_x.1 * x) v_x.2))) else none) else none)
noncomputable def m_parts_up_to (v_n : Int) (v_x : (Int × Int)) : Option Int := (if (Iv.rgOk (1 : Int) && Iv.rgOk (v_n + (1 : Int))) = true then (Iv.andO (Iv.lcO (m_parts_up_to_c1 v_x) (Iv.upTo (1 : Int) ((v_n + (1 : Int)) - (1 : Int)).toNat) 0) fun w1 => (some (Iv.sumI w1))) else none)
theorem e_parts_up_to (v_n : Int) (v_x : (Int × Int)) (S : Iv.Sta) : (Iv.andO (m_parts_up_to v_n v_x) fun r => some (.val (.int r), S)) ⊆ f_parts_up_to [(.int v_n), ((Iv.e2 Iv.D.int Iv.D.int) v_x)] S := by
  rw [d_parts_up_to]
  refine Iv.fn_go rfl ?_
  unfold m_parts_up_to
  refine Iv.p_if ?_
  refine Iv.p_lc (e := Iv.D.int) (e' := Iv.D.int) (Iv.rangeD_up _ _) (fun x2 acc kk F hF hF0 => ?_) (fun w1 => ?_)
  · unfold m_parts_up_to_c1
    refine Iv.p_if ?_
    refine Iv.p_ifd (j := v_x.2) ?_
    exact hF _
  · refine Iv.p_sum ?_
    exact Iv.le_rfl
/-! place_in_row -/
noncomputable def m_place_in_row_b1 (v_n : Int) (v_x : (Int × Int)) (s : Int) (x : Int) : Option Int := (Iv.andO (m_mobius_of x) fun w1 => (Iv.andO (Iv.selB (!decide (w1 = (0 : Int))) (if Iv.divOk x = true then (Iv.andO (m_parts_up_to (Iv.fdivI v_n x) v_x) fun w2 => (if Iv.mulOk w1 w2 = true then (some (s + (w1 * w2))) else none)) else none) (some s)) fun w3 => (some w3)))
noncomputable def m_place_in_row (v_n : Int) (v_x : (Int × Int)) : Option Int := (if (Iv.rgOk (1 : Int) && Iv.rgOk (v_n + (1 : Int))) = true then (Iv.andO (Iv.foldO (m_place_in_row_b1 v_n v_x) (Iv.upTo (1 : Int) ((v_n + (1 : Int)) - (1 : Int)).toNat) (0 : Int)) fun w4 => (some w4)) else none)
theorem e_place_in_row (v_n : Int) (v_x : (Int × Int)) (S : Iv.Sta) : (Iv.andO (m_place_in_row v_n v_x) fun r => some (.val (.int r), S)) ⊆ f_place_in_row [(.int v_n), ((Iv.e2 Iv.D.int Iv.D.int) v_x)] S := by
  rw [d_place_in_row]
  refine Iv.fn_go rfl ?_
  unfold m_place_in_row
  refine Iv.p_if ?_
  refine Iv.p_for (R := fun s5 env => ∃ j2 j3 : Iv.Slot, env = [.val (.int v_n), .val ((Iv.e2 Iv.D.int Iv.D.int) v_x), .val (.int s5), j2, j3]) (e := Iv.D.int) ?_ (Iv.rangeD_up _ _) ⟨_, _, rfl⟩ ?_
  · rintro s5 x4 _ nx7 F6 ⟨j2, j3, rfl⟩ hF6
    unfold m_place_in_row_b1
    refine Iv.p_call (e_mobius_of _ _ ) (fun w9 => ?_)
    refine Iv.p_assoc ?_
    refine Iv.p_sel ?_ ?_
    · refine Iv.p_ifd (j := x4) ?_
      refine Iv.p_call (e_parts_up_to _ _ _ ) (fun w10 => ?_)
      refine Iv.p_if ?_
      refine Iv.p_leaf ?_
      exact hF6 _ _ ⟨_, _, rfl⟩
    · refine Iv.p_leaf ?_
      exact hF6 _ _ ⟨_, _, rfl⟩
  · rintro w1 _ ⟨j2, j3, rfl⟩
    exact Iv.le_rfl
/-! member_at -/
noncomputable def m_member_at (v_n : Int) (v_place : Int) : Option (Int × Int) := (Iv.andO (m_farey_row v_n) fun w1 => (Iv.andO (Iv.getL w1 v_place) fun w2 => (some w2)))
theorem e_member_at (v_n : Int) (v_place : Int) (S : Iv.Sta) : (Iv.andO (m_member_at v_n v_place) fun r => some (.val ((Iv.e2 Iv.D.int Iv.D.int) r), S)) ⊆ f_member_at [(.int v_n), (.int v_place)] S := by
  rw [d_member_at]
  refine Iv.fn_go rfl ?_
  unfold m_member_at
  refine Iv.p_call (e_farey_row _ _ ) (fun w1 => ?_)
  refine Iv.p_itemT (fun w2 => ?_)
  exact Iv.le_rfl
/-! is_in_floor_row -/
noncomputable def m_is_in_floor_row (v_row : (Int × Int × Int)) (v_n : Int) : Option Bool := (if Iv.mulOk v_row.2.1 v_n = true then (if v_row.1 = 0 then none else (some (decide ((Iv.fmodI (v_row.2.2 - (v_row.2.1 * v_n)) v_row.1) < v_row.2.1)))) else none)
theorem e_is_in_floor_row (v_row : (Int × Int × Int)) (v_n : Int) (S : Iv.Sta) : (Iv.andO (m_is_in_floor_row v_row v_n) fun r => some (.val (.bl r), S)) ⊆ f_is_in_floor_row [((Iv.e3 Iv.D.int Iv.D.int Iv.D.int) v_row), (.int v_n)] S := by
  rw [d_is_in_floor_row]
  refine Iv.fn_go rfl ?_
  unfold m_is_in_floor_row
  refine Iv.p_if ?_
  refine Iv.p_ifn ?_
  exact Iv.le_rfl
/-! place_from -/
noncomputable def m_place_from (v_row : (Int × Int × Int)) (v_n : Int) : Option Int := (if Iv.mulOk v_row.2.1 v_n = true then (if Iv.divOk v_row.1 = true then (some (-(Iv.fdivI (v_row.2.2 - (v_row.2.1 * v_n)) v_row.1))) else none) else none)
theorem e_place_from (v_row : (Int × Int × Int)) (v_n : Int) (S : Iv.Sta) : (Iv.andO (m_place_from v_row v_n) fun r => some (.val (.int r), S)) ⊆ f_place_from [((Iv.e3 Iv.D.int Iv.D.int Iv.D.int) v_row), (.int v_n)] S := by
  rw [d_place_from]
  refine Iv.fn_go rfl ?_
  unfold m_place_from
  refine Iv.p_if ?_
  refine Iv.p_ifd (j := v_row.1) ?_
  exact Iv.le_rfl
/-! floor_count -/
noncomputable def m_floor_count (v_row : (Int × Int × Int)) (v_many : Int) : Option Int := (Iv.andO (m_place_from v_row v_many) fun w1 => (Iv.andO (m_place_from v_row (0 : Int)) fun w2 => (some (w1 - w2))))
theorem e_floor_count (v_row : (Int × Int × Int)) (v_many : Int) (S : Iv.Sta) : (Iv.andO (m_floor_count v_row v_many) fun r => some (.val (.int r), S)) ⊆ f_floor_count [((Iv.e3 Iv.D.int Iv.D.int Iv.D.int) v_row), (.int v_many)] S := by
  rw [d_floor_count]
  refine Iv.fn_go rfl ?_
  unfold m_floor_count
  refine Iv.p_call (e_place_from _ _ _ ) (fun w1 => ?_)
  refine Iv.p_call (e_place_from _ _ _ ) (fun w2 => ?_)
  exact Iv.le_rfl
/-! rest_floor_row -/
noncomputable def m_rest_floor_row (v_row : (Int × Int × Int)) : Option (Int × Int × Int) := (if v_row.1 = 0 then none else (some (v_row.1, (v_row.1 - v_row.2.1), (Iv.fmodI ((v_row.1 - (1 : Int)) - v_row.2.2) v_row.1))))
theorem e_rest_floor_row (v_row : (Int × Int × Int)) (S : Iv.Sta) : (Iv.andO (m_rest_floor_row v_row) fun r => some (.val ((Iv.e3 Iv.D.int Iv.D.int Iv.D.int) r), S)) ⊆ f_rest_floor_row [((Iv.e3 Iv.D.int Iv.D.int Iv.D.int) v_row)] S := by
  rw [d_rest_floor_row]
  refine Iv.fn_go rfl ?_
  unfold m_rest_floor_row
  refine Iv.p_ifn ?_
  exact Iv.le_rfl
/-! sum_of_numbers -/
noncomputable def m_sum_of_numbers (v_n : Int) : Option Int := (if Iv.mulOk v_n (v_n - (1 : Int)) = true then (some (Iv.fdivI (v_n * (v_n - (1 : Int))) (2 : Int))) else none)
theorem e_sum_of_numbers (v_n : Int) (S : Iv.Sta) : (Iv.andO (m_sum_of_numbers v_n) fun r => some (.val (.int r), S)) ⊆ f_sum_of_numbers [(.int v_n)] S := by
  rw [d_sum_of_numbers]
  refine Iv.fn_go rfl ?_
  unfold m_sum_of_numbers
  refine Iv.p_if ?_
  exact Iv.le_rfl
/-! sum_of_squares -/
noncomputable def m_sum_of_squares (v_n : Int) : Option Int := (if Iv.mulOk v_n (v_n - (1 : Int)) = true then (if Iv.mulOk (2 : Int) v_n = true then (if Iv.mulOk (v_n * (v_n - (1 : Int))) (((2 : Int) * v_n) - (1 : Int)) = true then (some (Iv.fdivI ((v_n * (v_n - (1 : Int))) * (((2 : Int) * v_n) - (1 : Int))) (6 : Int))) else none) else none) else none)
theorem e_sum_of_squares (v_n : Int) (S : Iv.Sta) : (Iv.andO (m_sum_of_squares v_n) fun r => some (.val (.int r), S)) ⊆ f_sum_of_squares [(.int v_n)] S := by
  rw [d_sum_of_squares]
  refine Iv.fn_go rfl ?_
  unfold m_sum_of_squares
  refine Iv.p_if ?_
  refine Iv.p_if ?_
  refine Iv.p_if ?_
  exact Iv.le_rfl
/-! steps_of_sums -/
noncomputable def m_steps_of_sums_t1 (s : (Int × Int × Int × Int × (List (Int × Int × Int × Int × Int × Int × Int)))) : Option Bool := (some (decide ((0 : Int) < s.1)))
noncomputable def m_steps_of_sums_b1 (s : (Int × Int × Int × Int × (List (Int × Int × Int × Int × Int × Int × Int)))) : Option (Int × Int × Int × Int × (List (Int × Int × Int × Int × Int × Int × Int))) := (if Iv.divOk s.2.2.2.1 = true then (if Iv.divOk s.2.2.2.1 = true then (if s.2.2.2.1 = 0 then none else (if s.2.2.2.1 = 0 then none else (if Iv.mulOk (Iv.fmodI s.2.1 s.2.2.2.1) s.1 = true then (if Iv.divOk s.2.2.2.1 = true then (if s.2.2.2.2.length < Iv.LINE then (some ((Iv.fdivI (((Iv.fmodI s.2.1 s.2.2.2.1) * s.1) + (Iv.fmodI s.2.2.1 s.2.2.2.1)) s.2.2.2.1), s.2.2.2.1, (((s.2.2.2.1 - (Iv.fmodI s.2.2.1 s.2.2.2.1)) + (Iv.fmodI s.2.1 s.2.2.2.1)) - (1 : Int)), (Iv.fmodI s.2.1 s.2.2.2.1), (s.2.2.2.2 ++ [(s.1, (Iv.fdivI s.2.1 s.2.2.2.1), (Iv.fdivI s.2.2.1 s.2.2.2.1), (Iv.fmodI s.2.1 s.2.2.2.1), (Iv.fmodI s.2.2.1 s.2.2.2.1), s.2.2.2.1, (Iv.fdivI (((Iv.fmodI s.2.1 s.2.2.2.1) * s.1) + (Iv.fmodI s.2.2.1 s.2.2.2.1)) s.2.2.2.1))]))) else none) else none) else none))) else none) else none)
noncomputable def m_steps_of_sums (v_n : Int) (v_a : Int) (v_b : Int) (v_m : Int) : Option (List (Int × Int × Int × Int × Int × Int × Int)) := (Iv.andO (Iv.iterO (m_steps_of_sums_t1) (m_steps_of_sums_b1) 1000000000000000000000000000000 (v_n, v_a, v_b, v_m, ([] : (List (Int × Int × Int × Int × Int × Int × Int))))) fun w1 => (some w1.2.2.2.2))
theorem e_steps_of_sums (v_n : Int) (v_a : Int) (v_b : Int) (v_m : Int) (S : Iv.Sta) : (Iv.andO (m_steps_of_sums v_n v_a v_b v_m) fun r => some (.new (List.map (Iv.e7 Iv.D.int Iv.D.int Iv.D.int Iv.D.int Iv.D.int Iv.D.int Iv.D.int) r), S)) ⊆ f_steps_of_sums [(.int v_n), (.int v_a), (.int v_b), (.int v_m)] S := by
  rw [d_steps_of_sums]
  refine Iv.fn_go rfl ?_
  unfold m_steps_of_sums
  refine Iv.p_whl (R := fun s6 env => ∃ j2 j3 j4 : Iv.Slot, env = [.val (.int s6.1), .val (.int s6.2.1), .val (.int s6.2.2.1), .val (.int s6.2.2.2.1), .own (List.map (Iv.e7 Iv.D.int Iv.D.int Iv.D.int Iv.D.int Iv.D.int Iv.D.int Iv.D.int) s6.2.2.2.2), j2, j3, j4]) ?_ ?_ ⟨_, _, _, rfl⟩ ?_
  · rintro s6 _ kb9 F7 ⟨j2, j3, j4, rfl⟩ hF7
    unfold m_steps_of_sums_t1
    exact hF7 _
  · rintro s6 _ nx8 F7 ⟨j2, j3, j4, rfl⟩ hF7
    unfold m_steps_of_sums_b1
    refine Iv.p_ifd (j := s6.2.2.2.1) ?_
    refine Iv.p_ifd (j := s6.2.2.2.1) ?_
    refine Iv.p_ifn ?_
    refine Iv.p_ifn ?_
    refine Iv.p_if ?_
    refine Iv.p_ifd (j := s6.2.2.2.1) ?_
    refine Iv.p_push (xs := s6.2.2.2.2) (x := (s6.1, (Iv.fdivI s6.2.1 s6.2.2.2.1), (Iv.fdivI s6.2.2.1 s6.2.2.2.1), (Iv.fmodI s6.2.1 s6.2.2.2.1), (Iv.fmodI s6.2.2.1 s6.2.2.2.1), s6.2.2.2.1, (Iv.fdivI (((Iv.fmodI s6.2.1 s6.2.2.2.1) * s6.1) + (Iv.fmodI s6.2.2.1 s6.2.2.2.1)) s6.2.2.2.1))) (e := (Iv.e7 Iv.D.int Iv.D.int Iv.D.int Iv.D.int Iv.D.int Iv.D.int Iv.D.int)) ?_
    exact hF7 _ _ ⟨_, _, _, rfl⟩
  · rintro w1 _ ⟨j2, j3, j4, rfl⟩
    exact Iv.le_rfl
/-! whole_sums -/
noncomputable def m_whole_sums_b1 (s : (Int × Int × Int)) (x : (Int × Int × Int × Int × Int × Int × Int)) : Option (Int × Int × Int) := (if Iv.mulOk x.2.2.2.2.2.2 x.1 = true then (if Iv.mulOk x.2.2.2.2.2.2 x.1 = true then (if Iv.mulOk (x.2.2.2.2.2.2 * x.1) (x.1 - (1 : Int)) = true then (if Iv.mulOk x.2.2.2.2.2.2 x.2.2.2.2.2.2 = true then (if Iv.mulOk (x.2.2.2.2.2.2 * x.2.2.2.2.2.2) x.1 = true then (if Iv.mulOk (2 : Int) s.2.1 = true then (Iv.andO (m_sum_of_numbers x.1) fun w2 => (Iv.andO (m_sum_of_squares x.1) fun w3 => (if Iv.mulOk x.2.1 x.2.1 = true then (if Iv.mulOk (x.2.1 * x.2.1) w3 = true then (if Iv.mulOk (2 : Int) x.2.1 = true then (if Iv.mulOk ((2 : Int) * x.2.1) x.2.2.1 = true then (if Iv.mulOk (((2 : Int) * x.2.1) * x.2.2.1) w2 = true then (if Iv.mulOk x.2.2.1 x.2.2.1 = true then (if Iv.mulOk (x.2.2.1 * x.2.2.1) x.1 = true then (if Iv.mulOk (2 : Int) x.2.1 = true then (if Iv.mulOk ((2 : Int) * x.2.1) (Iv.fdivI ((((x.2.2.2.2.2.2 * x.1) * (x.1 - (1 : Int))) - s.2.2) + s.1) (2 : Int)) = true then (if Iv.mulOk (2 : Int) x.2.2.1 = true then (if Iv.mulOk ((2 : Int) * x.2.2.1) ((x.2.2.2.2.2.2 * x.1) - s.1) = true then (if Iv.mulOk x.2.1 w3 = true then (if Iv.mulOk x.2.2.1 w2 = true then (if Iv.mulOk x.2.1 w2 = true then (if Iv.mulOk x.2.2.1 x.1 = true then (some ((((x.2.1 * w2) + (x.2.2.1 * x.1)) + ((x.2.2.2.2.2.2 * x.1) - s.1)), (((x.2.1 * w3) + (x.2.2.1 * w2)) + (Iv.fdivI ((((x.2.2.2.2.2.2 * x.1) * (x.1 - (1 : Int))) - s.2.2) + s.1) (2 : Int))), (((((((x.2.1 * x.2.1) * w3) + ((((2 : Int) * x.2.1) * x.2.2.1) * w2)) + ((x.2.2.1 * x.2.2.1) * x.1)) + ((((x.2.2.2.2.2.2 * x.2.2.2.2.2.2) * x.1) - ((2 : Int) * s.2.1)) - s.1)) + (((2 : Int) * x.2.1) * (Iv.fdivI ((((x.2.2.2.2.2.2 * x.1) * (x.1 - (1 : Int))) - s.2.2) + s.1) (2 : Int)))) + (((2 : Int) * x.2.2.1) * ((x.2.2.2.2.2.2 * x.1) - s.1))))) else none) else none) else none) else none) else none) else none) else none) else none) else none) else none) else none) else none) else none) else none) else none))) else none) else none) else none) else none) else none) else none)
noncomputable def m_whole_sums (v_n : Int) (v_a : Int) (v_b : Int) (v_m : Int) : Option (Int × Int × Int) := (Iv.andO (m_steps_of_sums v_n v_a v_b v_m) fun w1 => (Iv.andO (Iv.foldO (m_whole_sums_b1) (List.reverse w1) ((0 : Int), (0 : Int), (0 : Int))) fun w4 => (some (w4.1, w4.2.1, w4.2.2))))
theorem e_whole_sums (v_n : Int) (v_a : Int) (v_b : Int) (v_m : Int) (S : Iv.Sta) : (Iv.andO (m_whole_sums v_n v_a v_b v_m) fun r => some (.val ((Iv.e3 Iv.D.int Iv.D.int Iv.D.int) r), S)) ⊆ f_whole_sums [(.int v_n), (.int v_a), (.int v_b), (.int v_m)] S := by
  rw [d_whole_sums]
  refine Iv.fn_go rfl ?_
  unfold m_whole_sums
  refine Iv.p_call (e_steps_of_sums _ _ _ _ _ ) (fun w1 => ?_)
  refine Iv.p_rev ?_
  refine Iv.p_for (R := fun s13 env => ∃ j3 j4 j5 j6 j7 j8 j9 j10 j11 : Iv.Slot, env = [j3, j4, j5, j6, .val (.int s13.1), .val (.int s13.2.1), .val (.int s13.2.2), j7, j8, j9, j10, j11]) (e := (Iv.e7 Iv.D.int Iv.D.int Iv.D.int Iv.D.int Iv.D.int Iv.D.int Iv.D.int)) ?_ rfl ⟨_, _, _, _, _, _, _, _, _, rfl⟩ ?_
  · rintro s13 x12 _ nx15 F14 ⟨j3, j4, j5, j6, j7, j8, j9, j10, j11, rfl⟩ hF14
    unfold m_whole_sums_b1
    refine Iv.p_if ?_
    refine Iv.p_if ?_
    refine Iv.p_if ?_
    refine Iv.p_if ?_
    refine Iv.p_if ?_
    refine Iv.p_if ?_
    refine Iv.p_call (e_sum_of_numbers _ _ ) (fun w17 => ?_)
    refine Iv.p_call (e_sum_of_squares _ _ ) (fun w18 => ?_)
    refine Iv.p_if ?_
    refine Iv.p_if ?_
    refine Iv.p_if ?_
    refine Iv.p_if ?_
    refine Iv.p_if ?_
    refine Iv.p_if ?_
    refine Iv.p_if ?_
    refine Iv.p_if ?_
    refine Iv.p_if ?_
    refine Iv.p_if ?_
    refine Iv.p_if ?_
    refine Iv.p_if ?_
    refine Iv.p_if ?_
    refine Iv.p_if ?_
    refine Iv.p_if ?_
    exact hF14 _ _ ⟨_, _, _, _, _, _, _, _, _, rfl⟩
  · rintro w2 _ ⟨j3, j4, j5, j6, j7, j8, j9, j10, j11, rfl⟩
    exact Iv.le_rfl
/-! whole_sum -/
noncomputable def m_whole_sum_b1 (s : Int) (x : (Int × Int × Int × Int × Int × Int × Int)) : Option Int := (if Iv.mulOk x.2.2.2.2.2.2 x.1 = true then (Iv.andO (m_sum_of_numbers x.1) fun w2 => (if Iv.mulOk x.2.1 w2 = true then (if Iv.mulOk x.2.2.1 x.1 = true then (some ((((x.2.2.2.2.2.2 * x.1) - s) + (x.2.1 * w2)) + (x.2.2.1 * x.1))) else none) else none)) else none)
noncomputable def m_whole_sum (v_n : Int) (v_a : Int) (v_b : Int) (v_m : Int) : Option Int := (Iv.andO (m_steps_of_sums v_n v_a v_b v_m) fun w1 => (Iv.andO (Iv.foldO (m_whole_sum_b1) (List.reverse w1) (0 : Int)) fun w3 => (some w3)))
theorem e_whole_sum (v_n : Int) (v_a : Int) (v_b : Int) (v_m : Int) (S : Iv.Sta) : (Iv.andO (m_whole_sum v_n v_a v_b v_m) fun r => some (.val (.int r), S)) ⊆ f_whole_sum [(.int v_n), (.int v_a), (.int v_b), (.int v_m)] S := by
  rw [d_whole_sum]
  refine Iv.fn_go rfl ?_
  unfold m_whole_sum
  refine Iv.p_call (e_steps_of_sums _ _ _ _ _ ) (fun w1 => ?_)
  refine Iv.p_rev ?_
  refine Iv.p_for (R := fun s11 env => ∃ j3 j4 j5 j6 j7 j8 j9 : Iv.Slot, env = [j3, j4, j5, j6, .val (.int s11), j7, j8, j9]) (e := (Iv.e7 Iv.D.int Iv.D.int Iv.D.int Iv.D.int Iv.D.int Iv.D.int Iv.D.int)) ?_ rfl ⟨_, _, _, _, _, _, _, rfl⟩ ?_
  · rintro s11 x10 _ nx13 F12 ⟨j3, j4, j5, j6, j7, j8, j9, rfl⟩ hF12
    unfold m_whole_sum_b1
    refine Iv.p_if ?_
    refine Iv.p_call (e_sum_of_numbers _ _ ) (fun w15 => ?_)
    refine Iv.p_if ?_
    refine Iv.p_if ?_
    exact hF12 _ _ ⟨_, _, _, _, _, _, _, rfl⟩
  · rintro w2 _ ⟨j3, j4, j5, j6, j7, j8, j9, rfl⟩
    exact Iv.le_rfl
/-! _law_of -/
noncomputable def m_l_of (σ : Iv.Src) (v_some : (List (Int × Int))) : Option ((Int × Int) × Iv.Src) := (Iv.andO (m_l_pick σ (v_some.length : Int)) fun w1 => (Iv.andO (Iv.getL v_some w1.1) fun w2 => (some (w2, w1.2))))
theorem e_l_of (ns : List Int) (σ : Iv.Src) (v_some : (List (Int × Int))) : (Iv.andO (m_l_of σ v_some) fun r => some (.val ((Iv.e2 Iv.D.int Iv.D.int) r.1), ⟨ns, some r.2⟩)) ⊆ f_l_of [.src, (.lst (List.map (Iv.e2 Iv.D.int Iv.D.int) v_some))] ⟨ns, some σ⟩ := by
  rw [d_l_of]
  refine Iv.fn_go rfl ?_
  unfold m_l_of
  refine Iv.p_len ?_
  refine Iv.p_call (e_l_pick _ _ _ ) (fun w1 => ?_)
  refine Iv.p_item (fun w2 => ?_)
  exact Iv.le_rfl
/-! _law_common -/
noncomputable def m_l_common_t1 (s : (Int × Int)) : Option Bool := (some (decide ((0 : Int) < s.2)))
noncomputable def m_l_common_b1 (s : (Int × Int)) : Option (Int × Int) := (if s.2 = 0 then none else (some (s.2, (Iv.fmodI s.1 s.2))))
noncomputable def m_l_common (v_m : Int) (v_n : Int) : Option Int := (Iv.andO (Iv.iterO (m_l_common_t1) (m_l_common_b1) 1000000000000000000000000000000 ((if v_m < 0 then -v_m else v_m), (if v_n < 0 then -v_n else v_n))) fun w1 => (some w1.1))
theorem e_l_common (v_m : Int) (v_n : Int) (S : Iv.Sta) : (Iv.andO (m_l_common v_m v_n) fun r => some (.val (.int r), S)) ⊆ f_l_common [(.int v_m), (.int v_n)] S := by
  rw [d_l_common]
  refine Iv.fn_go rfl ?_
  unfold m_l_common
  refine Iv.p_whl (R := fun s3 env => env = [.val (.int s3.1), .val (.int s3.2)]) ?_ ?_ rfl ?_
  · rintro s3 _ kb6 F4 rfl hF4
    unfold m_l_common_t1
    exact hF4 _
  · rintro s3 _ nx5 F4 rfl hF4
    unfold m_l_common_b1
    refine Iv.p_ifn ?_
    exact hF4 _ _ rfl
  · rintro w1 _ rfl
    exact Iv.le_rfl
/-! _law_between -/
noncomputable def m_l_between (σ : Iv.Src) (v_most : Int) : Option ((Int × Int) × Iv.Src) := (Iv.andO (m_l_pick σ (v_most - (1 : Int))) fun w1 => (Iv.andO (m_l_pick w1.2 (((2 : Int) + w1.1) - (1 : Int))) fun w2 => (Iv.andO (m_l_common ((1 : Int) + w2.1) ((2 : Int) + w1.1)) fun w3 => (if Iv.divOk w3 = true then (if Iv.divOk w3 = true then (some (((Iv.fdivI ((1 : Int) + w2.1) w3), (Iv.fdivI ((2 : Int) + w1.1) w3)), w2.2)) else none) else none))))
theorem e_l_between (ns : List Int) (σ : Iv.Src) (v_most : Int) : (Iv.andO (m_l_between σ v_most) fun r => some (.val ((Iv.e2 Iv.D.int Iv.D.int) r.1), ⟨ns, some r.2⟩)) ⊆ f_l_between [.src, (.int v_most)] ⟨ns, some σ⟩ := by
  rw [d_l_between]
  refine Iv.fn_go rfl ?_
  unfold m_l_between
  refine Iv.p_call (e_l_pick _ _ _ ) (fun w1 => ?_)
  refine Iv.p_call (e_l_pick _ _ _ ) (fun w2 => ?_)
  refine Iv.p_call (e_l_common _ _ _ ) (fun w3 => ?_)
  refine Iv.p_ifd (j := w3) ?_
  refine Iv.p_ifd (j := w3) ?_
  exact Iv.le_rfl
/-! _law_places_right -/
noncomputable def m_l_places_right_b1 (v_n : Int) (v_p : Int) (v_q : Int) (s : Int) (x : Int) : Option Int := (Iv.andO (Iv.andO (m_mobius_of x) fun w1 => (Iv.selB (!decide (w1 = (0 : Int))) (Iv.andO (m_mobius_of x) fun w2 => (if Iv.divOk x = true then (Iv.andO (m_whole_sum ((Iv.fdivI v_n x) + (1 : Int)) v_p (0 : Int) v_q) fun w3 => (if Iv.mulOk w2 w3 = true then (some (s + (w2 * w3))) else none)) else none)) (some s))) fun w4 => (some w4))
noncomputable def m_l_places_right (v_n : Int) (v_x : (Int × Int)) : Option Bool := (if (Iv.rgOk (1 : Int) && Iv.rgOk (v_n + (1 : Int))) = true then (Iv.andO (Iv.foldO (m_l_places_right_b1 v_n v_x.1 v_x.2) (Iv.upTo (1 : Int) ((v_n + (1 : Int)) - (1 : Int)).toNat) (0 : Int)) fun w5 => (Iv.andO (m_place_in_row v_n v_x) fun w6 => (some (decide (w5 = w6))))) else none)
theorem e_l_places_right (v_n : Int) (v_x : (Int × Int)) (S : Iv.Sta) : (Iv.andO (m_l_places_right v_n v_x) fun r => some (.val (.bl r), S)) ⊆ f_l_places_right [(.int v_n), ((Iv.e2 Iv.D.int Iv.D.int) v_x)] S := by
  rw [d_l_places_right]
  refine Iv.fn_go rfl ?_
  unfold m_l_places_right
  refine Iv.p_if ?_
  refine Iv.p_for (R := fun s4 env => ∃ j2 : Iv.Slot, env = [.val (.int v_n), .val ((Iv.e2 Iv.D.int Iv.D.int) v_x), .val (.int s4), j2, .val (.int v_x.1), .val (.int v_x.2)]) (e := Iv.D.int) ?_ (Iv.rangeD_up _ _) ⟨_, rfl⟩ ?_
  · rintro s4 x3 _ nx6 F5 ⟨j2, rfl⟩ hF5
    unfold m_l_places_right_b1
    refine Iv.p_assoc ?_
    refine Iv.p_call (e_mobius_of _ _ ) (fun w8 => ?_)
    refine Iv.p_sel ?_ ?_
    · refine Iv.p_call (e_mobius_of _ _ ) (fun w9 => ?_)
      refine Iv.p_ifd (j := x3) ?_
      refine Iv.p_call (e_whole_sum _ _ _ _ _ ) (fun w10 => ?_)
      refine Iv.p_if ?_
      refine Iv.p_leaf ?_
      exact hF5 _ _ ⟨_, rfl⟩
    · refine Iv.p_leaf ?_
      exact hF5 _ _ ⟨_, rfl⟩
  · rintro w1 _ ⟨j2, rfl⟩
    refine Iv.p_call (e_place_in_row _ _ _ ) (fun w11 => ?_)
    exact Iv.le_rfl
/-! _law_ring_right -/
noncomputable def m_l_ring_right_b1 (v_x : (Int × Int)) (v_q : Int) (s : Int) (x : Int) : Option Int := (Iv.andO (m_ring_place v_x x) fun w10 => (if Iv.divOk w10.2 = true then (if Iv.mulOk w10.1 (Iv.fdivI v_q w10.2) = true then (some (s + (w10.1 * (Iv.fdivI v_q w10.2)))) else none) else none))
noncomputable def m_l_ring_right_k1 (v_x : (Int × Int)) (v_many : Int) (v_p : Int) (v_q : Int) (σ : Iv.Src) := (Iv.andO (m_ring_row v_x v_many) fun w9 => (Iv.andO (Iv.foldO (m_l_ring_right_b1 v_x v_q) w9 (0 : Int)) fun w11 => (if Iv.mulOk v_p v_many = true then (if Iv.mulOk (v_p * v_many) (v_many - (1 : Int)) = true then (Iv.andO (m_whole_sum v_many v_p (0 : Int) v_q) fun w12 => (if Iv.mulOk v_q w12 = true then (some ((decide (w11 = ((Iv.fdivI ((v_p * v_many) * (v_many - (1 : Int))) (2 : Int)) - (v_q * w12)))), σ)) else none)) else none) else none)))
noncomputable def m_l_ring_right (σ : Iv.Src) (v_x : (Int × Int)) : Option (Bool × Iv.Src) := (Iv.andO (m_l_pick σ ((if (300 : Int) < v_x.2 then (300 : Int) else v_x.2) - (1 : Int))) fun w1 => (Iv.andO (m_l_between w1.2 (40 : Int)) fun w2 => (Iv.andO (m_l_pick w2.2 v_x.2) fun w3 => (Iv.andO (m_ring_place v_x w3.1) fun w4 => (Iv.andO (m_l_of w3.2 [((0 : Int), (1 : Int)), ((1 : Int), (1 : Int)), w2.1, w4]) fun w5 => (Iv.andO (m_whole_sum ((2 : Int) + w1.1) v_x.1 (0 : Int) v_x.2) fun w6 => (if Iv.mulOk v_x.1 w5.1.2 = true then (if Iv.mulOk w5.1.1 v_x.2 = true then (if Iv.mulOk v_x.2 w5.1.2 = true then (Iv.andO (m_whole_sum ((2 : Int) + w1.1) (v_x.1 * w5.1.2) ((0 : Int) - (w5.1.1 * v_x.2)) (v_x.2 * w5.1.2)) fun w7 => (Iv.andO (m_points_below v_x ((2 : Int) + w1.1) w5.1) fun w8 => (Iv.selB (!decide (w8 = (w6 - w7))) (some (false, w5.2)) (m_l_ring_right_k1 v_x ((2 : Int) + w1.1) v_x.1 v_x.2 w5.2)))) else none) else none) else none)))))))
theorem e_l_ring_right (ns : List Int) (σ : Iv.Src) (v_x : (Int × Int)) : (Iv.andO (m_l_ring_right σ v_x) fun r => some (.val (.bl r.1), ⟨ns, some r.2⟩)) ⊆ f_l_ring_right [.src, ((Iv.e2 Iv.D.int Iv.D.int) v_x)] ⟨ns, some σ⟩ := by
  rw [d_l_ring_right]
  refine Iv.fn_go rfl ?_
  unfold m_l_ring_right
  refine Iv.p_call (e_l_pick _ _ _ ) (fun w1 => ?_)
  refine Iv.p_call (e_l_between _ _ _ ) (fun w2 => ?_)
  refine Iv.p_call (e_l_pick _ _ _ ) (fun w3 => ?_)
  refine Iv.p_call (e_ring_place _ _ _ ) (fun w4 => ?_)
  refine Iv.p_call (e_l_of _ _ _ ) (fun w5 => ?_)
  refine Iv.p_call (e_whole_sum _ _ _ _ _ ) (fun w6 => ?_)
  refine Iv.p_if ?_
  refine Iv.p_if ?_
  refine Iv.p_if ?_
  refine Iv.p_call (e_whole_sum _ _ _ _ _ ) (fun w7 => ?_)
  refine Iv.p_call (e_points_below _ _ _ _ ) (fun w8 => ?_)
  refine Iv.p_sel ?_ ?_
  · exact Iv.le_rfl
  · unfold m_l_ring_right_k1
    refine Iv.p_call (e_ring_row _ _ _ ) (fun w9 => ?_)
    refine Iv.p_for (R := fun s15 env => ∃ j11 j12 j13 : Iv.Slot, env = [.val .src, .val ((Iv.e2 Iv.D.int Iv.D.int) v_x), .val (.int ((2 : Int) + w1.1)), .val ((Iv.e2 Iv.D.int Iv.D.int) w5.1), .val (.int (w6 - w7)), .val (.int s15), j11, .val (.int v_x.1), .val (.int v_x.2), .val (.int w5.1.1), .val (.int w5.1.2), j12, j13]) (e := Iv.D.int) ?_ rfl ⟨_, _, _, rfl⟩ ?_
    · rintro s15 x14 _ nx17 F16 ⟨j11, j12, j13, rfl⟩ hF16
      unfold m_l_ring_right_b1
      refine Iv.p_call (e_ring_place _ _ _ ) (fun w19 => ?_)
      refine Iv.p_ifd (j := w19.2) ?_
      refine Iv.p_if ?_
      exact hF16 _ _ ⟨_, _, _, rfl⟩
    · rintro w10 _ ⟨j11, j12, j13, rfl⟩
      refine Iv.p_if ?_
      refine Iv.p_if ?_
      refine Iv.p_call (e_whole_sum _ _ _ _ _ ) (fun w20 => ?_)
      refine Iv.p_if ?_
      exact Iv.le_rfl
/-! _law_floors_right -/
noncomputable def m_l_floors_right_k1 (v_row : (Int × Int × Int)) (v_q : Int) (v_p : Int) (v_r : Int) (σ : Iv.Src) := (Iv.andO (m_l_pick σ (2001 : Int)) fun w9 => (Iv.andO (m_is_in_floor_row v_row (w9.1 - (1000 : Int))) fun w10 => (if Iv.mulOk v_q (w9.1 - (1000 : Int)) = true then (if Iv.divOk v_p = true then (if Iv.mulOk v_q (w9.1 - (1000 : Int)) = true then (if Iv.divOk v_p = true then (some ((decide (w10 = (decide (((Iv.fdivI (v_r - (v_q * (w9.1 - (1000 : Int)))) v_p) - (Iv.fdivI ((v_r - (v_q * (w9.1 - (1000 : Int)))) - v_q) v_p)) = (1 : Int))))), w9.2)) else none) else none) else none) else none)))
noncomputable def m_l_floors_right (σ : Iv.Src) (v_x : (Int × Int)) : Option (Bool × Iv.Src) := (Iv.andO (m_l_pick σ (401 : Int)) fun w1 => (Iv.andO (m_l_pick w1.2 (2000 : Int)) fun w2 => (Iv.andO (m_whole_sum ((1 : Int) + w2.1) ((0 : Int) - v_x.1) (w1.1 - (200 : Int)) v_x.2) fun w3 => (Iv.andO (m_whole_sum ((1 : Int) + w2.1) ((0 : Int) - v_x.1) ((w1.1 - (200 : Int)) - v_x.1) v_x.2) fun w4 => (Iv.andO (Iv.andO (m_floor_count (v_x.2, v_x.1, (w1.1 - (200 : Int))) ((1 : Int) + w2.1)) fun w5 => (Iv.selB (!decide (w5 = (w3 - w4))) (some true) (Iv.andO (m_rest_floor_row (v_x.2, v_x.1, (w1.1 - (200 : Int)))) fun w6 => (Iv.andO (m_floor_count w6 ((1 : Int) + w2.1)) fun w7 => (some (!decide (w7 = (((1 : Int) + w2.1) - (w3 - w4))))))))) fun w8 => (Iv.selB w8 (some (false, w2.2)) (m_l_floors_right_k1 (v_x.2, v_x.1, (w1.1 - (200 : Int))) v_x.1 v_x.2 (w1.1 - (200 : Int)) w2.2)))))))
theorem e_l_floors_right (ns : List Int) (σ : Iv.Src) (v_x : (Int × Int)) : (Iv.andO (m_l_floors_right σ v_x) fun r => some (.val (.bl r.1), ⟨ns, some r.2⟩)) ⊆ f_l_floors_right [.src, ((Iv.e2 Iv.D.int Iv.D.int) v_x)] ⟨ns, some σ⟩ := by
  rw [d_l_floors_right]
  refine Iv.fn_go rfl ?_
  unfold m_l_floors_right
  refine Iv.p_call (e_l_pick _ _ _ ) (fun w1 => ?_)
  refine Iv.p_call (e_l_pick _ _ _ ) (fun w2 => ?_)
  refine Iv.p_call (e_whole_sum _ _ _ _ _ ) (fun w3 => ?_)
  refine Iv.p_call (e_whole_sum _ _ _ _ _ ) (fun w4 => ?_)
  refine Iv.p_assoc ?_
  refine Iv.p_call (e_floor_count _ _ _ ) (fun w5 => ?_)
  refine Iv.p_sel ?_ ?_
  · refine Iv.p_leaf ?_
    exact Iv.le_rfl
  · refine Iv.p_call (e_rest_floor_row _ _ ) (fun w6 => ?_)
    refine Iv.p_call (e_floor_count _ _ _ ) (fun w7 => ?_)
    refine Iv.p_leaf ?_
    refine Iv.p_sel ?_ ?_
    · exact Iv.le_rfl
    · unfold m_l_floors_right_k1
      refine Iv.p_call (e_l_pick _ _ _ ) (fun w8 => ?_)
      refine Iv.p_call (e_is_in_floor_row _ _ _ ) (fun w9 => ?_)
      refine Iv.p_if ?_
      refine Iv.p_ifd (j := v_x.2) ?_
      refine Iv.p_if ?_
      refine Iv.p_ifd (j := v_x.2) ?_
      refine Iv.p_eq (e := Iv.D.bl) (Iv.eqOk_bl _) (a := w9) (b := (decide (((Iv.fdivI ((w1.1 - (200 : Int)) - (v_x.1 * (w8.1 - (1000 : Int)))) v_x.2) - (Iv.fdivI (((w1.1 - (200 : Int)) - (v_x.1 * (w8.1 - (1000 : Int)))) - v_x.1) v_x.2)) = (1 : Int)))) ?_
      exact Iv.le_rfl
/-! law -/
noncomputable def m_law_k4 (v_x : (Int × Int)) (σ : Iv.Src) := (Iv.andO (Iv.andO (m_l_ring_right σ v_x) fun w18 => (Iv.selB (!w18.1) (some (true, w18.2)) (Iv.andO (m_l_floors_right w18.2 v_x) fun w19 => (some ((!w19.1), w19.2))))) fun w20 => (Iv.selB w20.1 (some (Iv.Ext.out (false, w20.2))) (some (Iv.Ext.go w20.2))))
noncomputable def m_law_k3 (v_few : Int) (v_place : Int) (v_x : (Int × Int)) (σ : Iv.Src) := (Iv.andO (m_member_at v_few v_place) fun w14 => (Iv.andO (if Iv.mulOk w14.1 v_x.2 = true then (if Iv.mulOk v_x.1 w14.2 = true then (Iv.selB (decide ((v_x.1 * w14.2) < (w14.1 * v_x.2))) (some true) (Iv.andO (Iv.andO (m_is_member v_few w14) fun w15 => (Iv.selB (!(w15 == true)) (some true) (some (!(decide ((decide (v_x.2 ≤ v_few)) = (decide (w14 = v_x)))))))) fun w16 => (some w16))) else none) else none) fun w17 => (Iv.selB w17 (some (Iv.Ext.out (false, σ))) (m_law_k4 v_x σ))))
noncomputable def m_law_k2 (v_few : Int) (v_x : (Int × Int)) (σ : Iv.Src) := (Iv.andO (m_place_in_row v_few v_x) fun w13 => (m_law_k3 v_few w13 v_x σ))
noncomputable def m_law_k1 (v_x : (Int × Int)) (σ : Iv.Src) := (Iv.andO (m_l_pick σ (150 : Int)) fun w8 => (Iv.andO (Iv.andO (m_l_places_right ((1 : Int) + w8.1) v_x) fun w9 => (Iv.selB (!w9) (some true) (Iv.andO (m_row_size ((1 : Int) + w8.1)) fun w10 => (Iv.andO (m_place_in_row ((1 : Int) + w8.1) ((1 : Int), (1 : Int))) fun w11 => (some (!decide (w10 = (w11 + (1 : Int))))))))) fun w12 => (Iv.selB w12 (some (Iv.Ext.out (false, w8.2))) (m_law_k2 ((1 : Int) + w8.1) v_x w8.2))))
noncomputable def m_law_b1 (s : Iv.Src) (x : Int) : Option (Iv.Ext Iv.Src (Bool × Iv.Src)) := (Iv.andO (m_l_between s (1000 : Int)) fun w2 => (Iv.andO (m_l_pick w2.2 (2000 : Int)) fun w3 => (Iv.andO (m_whole_sum (((1 : Int) + w3.1) + (1 : Int)) w2.1.1 (0 : Int) w2.1.2) fun w4 => (Iv.andO (Iv.andO (m_parts_up_to ((1 : Int) + w3.1) w2.1) fun w5 => (Iv.selB (!decide (w5 = w4)) (some true) (Iv.andO (m_whole_sums (((1 : Int) + w3.1) + (1 : Int)) w2.1.1 (0 : Int) w2.1.2) fun w6 => (some (!decide (w6.1 = w4)))))) fun w7 => (Iv.selB w7 (some (Iv.Ext.out (false, w3.2))) (m_law_k1 w2.1 w3.2))))))
noncomputable def m_law (ns : List Int) : Option (Bool × Iv.Src) := (Iv.andO (m_l_open_cells ns ) fun w1 => (if Iv.rgOk (2 : Int) = true then (Iv.andO (Iv.foldX (m_law_b1) (Iv.upTo 0 ((2 : Int)).toNat) w1) fun y22 => Iv.Ext.on y22 (fun w21 => (some (true, w21))) (fun r23 => (some r23))) else none))
theorem e_law (ns : List Int) : (Iv.andO (m_law ns ) fun r => some (.val (.bl r.1), ⟨ns, some r.2⟩)) ⊆ f_law [.scr] ⟨ns, none⟩ := by
  rw [d_law]
  refine Iv.fn_go rfl ?_
  unfold m_law
  refine Iv.p_call (e_l_open_cells _ ) (fun w1 => ?_)
  refine Iv.p_if ?_
  refine Iv.p_forX (R := fun s13 env S0 => ∃ j5 j6 j7 j8 j9 j10 j11 : Iv.Slot, env = [.val .scr, .val .src, j5, j6, j7, j8, j9, j10, j11] ∧ (Iv.Sta.mk ns (some s13)) = S0) (e := Iv.D.int) ?_ ?_ (Iv.rangeD_up _ _) ⟨_, _, _, _, _, _, _, rfl, rfl⟩
  · rintro s13 x12 _ _ nx15 F14 ⟨j5, j6, j7, j8, j9, j10, j11, rfl, rfl⟩ hF14 hbF14 hoF14
    unfold m_law_b1
    refine Iv.p_call (e_l_between _ _ _ ) (fun w17 => ?_)
    refine Iv.p_call (e_l_pick _ _ _ ) (fun w18 => ?_)
    refine Iv.p_call (e_whole_sum _ _ _ _ _ ) (fun w19 => ?_)
    refine Iv.p_assoc ?_
    refine Iv.p_call (e_parts_up_to _ _ _ ) (fun w20 => ?_)
    refine Iv.p_sel ?_ ?_
    · refine Iv.p_leaf ?_
      exact (Iv.le_trans (hoF14 _) Iv.le_rfl)
    · refine Iv.p_call (e_whole_sums _ _ _ _ _ ) (fun w21 => ?_)
      refine Iv.p_leaf ?_
      refine Iv.p_sel ?_ ?_
      · exact (Iv.le_trans (hoF14 _) Iv.le_rfl)
      · unfold m_law_k1
        refine Iv.p_call (e_l_pick _ _ _ ) (fun w22 => ?_)
        refine Iv.p_assoc ?_
        refine Iv.p_call (e_l_places_right _ _ _ ) (fun w23 => ?_)
        refine Iv.p_sel ?_ ?_
        · refine Iv.p_leaf ?_
          exact (Iv.le_trans (hoF14 _) Iv.le_rfl)
        · refine Iv.p_call (e_row_size _ _ ) (fun w24 => ?_)
          refine Iv.p_call (e_place_in_row _ _ _ ) (fun w25 => ?_)
          refine Iv.p_leaf ?_
          refine Iv.p_sel ?_ ?_
          · exact (Iv.le_trans (hoF14 _) Iv.le_rfl)
          · unfold m_law_k2
            refine Iv.p_call (e_place_in_row _ _ _ ) (fun w26 => ?_)
            unfold m_law_k3
            refine Iv.p_call (e_member_at _ _ _ ) (fun w27 => ?_)
            refine Iv.p_assoc ?_
            refine Iv.p_if ?_
            refine Iv.p_if ?_
            refine Iv.p_sel ?_ ?_
            · refine Iv.p_leaf ?_
              exact (Iv.le_trans (hoF14 _) Iv.le_rfl)
            · refine Iv.p_assoc ?_
              refine Iv.p_call (e_is_member _ _ _ ) (fun w28 => ?_)
              refine Iv.p_sel ?_ ?_
              · refine Iv.p_leaf ?_
                refine Iv.p_leaf ?_
                exact (Iv.le_trans (hoF14 _) Iv.le_rfl)
              · refine Iv.p_eq (e := (Iv.e2 Iv.D.int Iv.D.int)) (Iv.eqOk_2 (Iv.eqOk_int _) (Iv.eqOk_int _)) (a := w27) (b := w17.1) ?_
                refine Iv.p_eq (e := Iv.D.bl) (Iv.eqOk_bl _) (a := (decide (w17.1.2 ≤ ((1 : Int) + w22.1)))) (b := (decide (w27 = w17.1))) ?_
                refine Iv.p_leaf ?_
                refine Iv.p_leaf ?_
                refine Iv.p_sel ?_ ?_
                · exact (Iv.le_trans (hoF14 _) Iv.le_rfl)
                · unfold m_law_k4
                  refine Iv.p_assoc ?_
                  refine Iv.p_call (e_l_ring_right _ _ _ ) (fun w29 => ?_)
                  refine Iv.p_sel ?_ ?_
                  · refine Iv.p_leaf ?_
                    exact (Iv.le_trans (hoF14 _) Iv.le_rfl)
                  · refine Iv.p_call (e_l_floors_right _ _ _ ) (fun w30 => ?_)
                    refine Iv.p_leaf ?_
                    refine Iv.p_sel ?_ ?_
                    · exact (Iv.le_trans (hoF14 _) Iv.le_rfl)
                    · exact hF14 _ _ _ ⟨_, _, _, _, _, _, _, rfl, rfl⟩
  · rintro w2 _ _ ⟨j5, j6, j7, j8, j9, j10, j11, rfl, rfl⟩
    exact Iv.le_rfl
end K42
end

section
set_option Elab.async false
set_option linter.all false
set_option maxRecDepth 100000
namespace K42
theorem pick_ok (σ : Iv.Src) (most : Int) (hσ : σ.cells.length ≤ 63) (h1 : 1 ≤ most) (h2 : most < 1000000000) : ∃ v σ', m_l_pick σ most = some (v, σ') ∧ 0 ≤ v ∧ v < most ∧ σ'.cells.length ≤ 63 := by
  unfold m_l_pick
  by_cases c : most < 2
  · rw [decide_eq_true c]
    exact ⟨0, σ, rfl, by omega, by omega, hσ⟩
  · rw [decide_eq_false c]
    obtain ⟨s, e, hs, -⟩ := Iv.iterO_inv (t := m_l_pick_t1) (f := m_l_pick_b1) (fun s => s.cells.length ≤ 63) (fun s => s.cells.length) (fun s hs => by
      unfold m_l_pick_t1 m_l_pick_b1
      by_cases c1 : s.left < 2
      · rw [decide_eq_true c1]
        by_cases c2 : (0 : Int) < (s.cells.length : Int)
        · rw [decide_eq_true c2]
          refine ⟨true, rfl, fun _ => ?_⟩
          have : s.cells ≠ [] := by
            intro z
            rw [z] at c2
            exact absurd c2 (by decide)
          have hl : ∀ l : List Int, l ≠ [] → ∃ i q, Iv.lastI l = some (i, q) ∧ q.length < l.length := by
            intro l
            induction l with
            | nil => intro z; exact absurd rfl z
            | cons x r ih =>
              intro _
              cases r with
              | nil => exact ⟨x, [], rfl, by simp⟩
              | cons y q =>
                obtain ⟨i, p, e, hp⟩ := ih (by simp)
                refine ⟨i, x :: p, ?_, by simpa using hp⟩
                show (match Iv.lastI (y :: q) with
                  | some (j, q) => some (j, x :: q)
                  | none => none) = _
                rw [e]
          obtain ⟨i, q, e, hq⟩ := hl _ this
          rw [e]
          exact ⟨_, rfl, (by show q.length ≤ 63; omega), hq⟩
        · rw [decide_eq_false c2]
          exact ⟨false, rfl, fun z => by cases z⟩
      · rw [decide_eq_false c1]
        exact ⟨false, rfl, fun z => by cases z⟩) 1000000000000000000000000000000 σ hσ (by omega)
    rw [e]
    have hm : ¬ most = 0 := by omega
    have hp : (0 : Int) < most := by omega
    show ∃ (v : Int) (σ' : Iv.Src), Iv.selB (decide (1 < s.left)) _ _ = some (v, σ') ∧ 0 ≤ v ∧ v < most ∧ σ'.cells.length ≤ 63
    by_cases c3 : 1 < s.left
    · rw [decide_eq_true c3, Iv.selB_true, if_pos (Iv.divOk_small hm (by omega)), if_neg hm]
      exact ⟨_, _, rfl, Iv.fmodI_ge hp, Iv.fmodI_lt hp, hs⟩
    · have b1 : ∀ x : Int, (Iv.fmodI x 998244353).natAbs < 18446744073709551616 := fun x => by
        have := Iv.fmodI_ge (a := x) (b := 998244353) (by decide)
        have := Iv.fmodI_lt (a := x) (b := 998244353) (by decide)
        omega
      rw [decide_eq_false c3, Iv.selB_false, if_pos (Iv.mulOk_r (by decide)), if_neg (by decide), if_pos (Iv.mulOk_r (b1 _)), if_pos (Iv.mulOk_r (by decide)), if_neg (by decide), if_neg hm]
      exact ⟨_, _, rfl, Iv.fmodI_ge hp, Iv.fmodI_lt hp, hs⟩
theorem open_ok (ns : List Int) (h : ns.length ≤ 63) : ∃ σ, m_l_open_cells ns = some σ ∧ σ.cells.length ≤ 63 := by
  unfold m_l_open_cells
  obtain ⟨s, e, -⟩ := Iv.foldO_inv (f := m_l_open_cells_b1) (fun _ => True) ns 11 (fun s x _ _ => by
    unfold m_l_open_cells_b1
    rw [if_pos (Iv.mulOk_r (by decide)), if_pos (Iv.mulOk_r (by decide)), if_neg (by decide)]
    exact ⟨_, rfl, trivial⟩) trivial
  rw [e]
  show ∃ σ, Iv.andO (Iv.lcO m_l_open_cells_c2 ns 0) _ = some σ ∧ _
  rw [Iv.lcO_all (f := m_l_open_cells_c2) (fun x => if x < 0 then -x else x) ns 0 (fun x _ => rfl) (by rw [Nat.zero_add]; exact Nat.le_trans h (by decide))]
  exact ⟨_, rfl, by simpa using h⟩
theorem foldO_append {α β : Type} (f : α → β → Option α) : ∀ (l r : List β) (s : α), Iv.foldO f (l ++ r) s = Iv.andO (Iv.foldO f l s) (Iv.foldO f r)
  | [], _, _ => rfl
  | x :: l, r, s => by
    rw [List.cons_append, Iv.foldO_cons, Iv.foldO_cons, Iv.andO_and]
    congr 1
    funext s'
    exact foldO_append f l r s'
theorem tri_ok (n : Int) (h0 : 0 ≤ n) (h1 : n < 1073741824) : m_sum_of_numbers n = some (n * (n - 1) / 2) ∧ 0 ≤ n * (n - 1) / 2 ∧ n * (n - 1) / 2 < 1152921504606846976 := by
  have p : 0 ≤ n * (n - 1) := by
    by_cases z : n = 0
    · rw [z]; decide
    · exact Int.mul_nonneg h0 (by omega)
  have q : n * (n - 1) ≤ 1073741824 * 1073741824 := by
    by_cases z : n = 0
    · rw [z]; decide
    · exact Int.mul_le_mul (by omega) (by omega) (by omega) (by decide)
  refine ⟨?_, Int.ediv_nonneg p (by decide), by omega⟩
  unfold m_sum_of_numbers
  rw [if_pos (Iv.mulOk_l (by omega)), Iv.fdivI_pos (by decide)]
theorem sq_ok (n : Int) (h0 : 0 ≤ n) (h1 : n < 100000) : m_sum_of_squares n = some (n * (n - 1) * (2 * n - 1) / 6) ∧ (n * (n - 1) * (2 * n - 1) / 6).natAbs < 18446744073709551616 := by
  have p : 0 ≤ n * (n - 1) := by
    by_cases z : n = 0
    · rw [z]; decide
    · exact Int.mul_nonneg h0 (by omega)
  have q : n * (n - 1) ≤ 100000 * 100000 := by
    by_cases z : n = 0
    · rw [z]; decide
    · exact Int.mul_le_mul (by omega) (by omega) (by omega) (by decide)
  refine ⟨?_, ?_⟩
  · unfold m_sum_of_squares
    rw [if_pos (Iv.mulOk_l (by omega)), if_pos (Iv.mulOk_l (by decide)), if_pos (Iv.mulOk_r (by omega)), Iv.fdivI_pos (by decide)]
  · by_cases z : n = 0
    · rw [z]; decide
    · have r0 : 0 ≤ n * (n - 1) * (2 * n - 1) := Int.mul_nonneg p (by omega)
      have r1 : n * (n - 1) * (2 * n - 1) ≤ 100000 * 100000 * 200000 := Int.mul_le_mul q (by omega) (by omega) (by decide)
      omega
theorem div_abs (a m : Int) (m0 : 0 < m) : (a / m).natAbs ≤ a.natAbs := by
  by_cases c : 0 ≤ a
  · have := Int.ediv_le_self m c
    have := Int.ediv_nonneg c (by omega : 0 ≤ m)
    omega
  · have h1 : a / m < 0 := Int.ediv_neg_of_neg_of_pos (by omega) m0
    have h2 : a ≤ a / m := by
      rw [Int.le_ediv_iff_mul_le m0]
      have : a * m ≤ a * 1 := Int.mul_le_mul_of_nonpos_left (by omega) (by omega)
      omega
    omega
theorem sums_one {s t q n k l a b m e v w2 w3 : Int} (e0 : 0 ≤ e) (e1 : e < 200000) (ka : k.natAbs < 18446744073709551616) (ka2 : (2 * k).natAbs < 18446744073709551616) (kb : l.natAbs < 9223372036854775808) (x1 : True) (x2 : True) (n0 : 0 ≤ n) (n1 : n < 100000)
    (t1 : m_sum_of_numbers n = some w2) (t2 : 0 ≤ w2) (t3 : w2 < 1152921504606846976) (u1 : m_sum_of_squares n = some w3) (u2 : w3.natAbs < 18446744073709551616) (hv : ((e * n - s) + k * w2) + l * n = v) :
    m_whole_sums_b1 (s, t, q) (n, k, l, a, b, m, e) = some (v, ((k * w3) + (l * w2)) + (Iv.fdivI (((e * n * (n - 1)) - q) + s) 2), (((((k * k) * w3 + ((2 * k) * l) * w2) + (l * l) * n) + ((((e * e) * n) - (2 * t)) - s)) + (2 * k) * (Iv.fdivI (((e * n * (n - 1)) - q) + s) 2)) + (2 * l) * (e * n - s)) := by
  unfold m_whole_sums_b1
  dsimp only
  rw [if_pos (Iv.mulOk_r (by omega)), if_pos (Iv.mulOk_r (by omega)), if_pos (Iv.mulOk_r (by omega)), if_pos (Iv.mulOk_r (by omega)), if_pos (Iv.mulOk_r (by omega)), if_pos (Iv.mulOk_l (by decide)), t1, Iv.andO_some, u1, Iv.andO_some,
    if_pos (Iv.mulOk_r (by omega)), if_pos (Iv.mulOk_r (by omega)), if_pos (Iv.mulOk_l (by decide)), if_pos (Iv.mulOk_r (by omega)), if_pos (Iv.mulOk_r (by omega)), if_pos (Iv.mulOk_r (by omega)), if_pos (Iv.mulOk_r (by omega)), if_pos (Iv.mulOk_l (by decide)), if_pos (Iv.mulOk_l (by omega)), if_pos (Iv.mulOk_l (by decide)), if_pos (Iv.mulOk_l (by omega)), if_pos (Iv.mulOk_l (by omega)), if_pos (Iv.mulOk_l (by omega)), if_pos (Iv.mulOk_l (by omega)), if_pos (Iv.mulOk_l (by omega))]
  congr 2
  omega
theorem whole_val (a b m n : Int) (n0 : 0 ≤ n) (m0 : 0 < m) : (((a % m * n + b % m) / m * n - Iv.fs m (m - b % m + a % m - 1) (a % m) ((a % m * n + b % m) / m).toNat) + a / m * (n * (n - 1) / 2)) + b / m * n = Iv.fs a b m n.toNat := by
  have ra0 := Int.emod_nonneg a (b := m) (by omega)
  have ra1 := Int.emod_lt_of_pos a m0
  have rb0 := Int.emod_nonneg b (b := m) (by omega)
  have rb1 := Int.emod_lt_of_pos b m0
  have en : ((n.toNat : Nat) : Int) = n := by omega
  rw [Iv.fs_red a b m m0 n.toNat, en]
  by_cases y : a % m = 0
  · have ez : (a % m * n + b % m) / m = 0 := by
      rw [y, Int.zero_mul, Int.zero_add]
      exact Int.ediv_eq_zero_of_lt rb0 rb1
    rw [ez, y]
    have f0 : Iv.fs 0 (b % m) m n.toNat = 0 := by
      have : ∀ k : Nat, Iv.fs 0 (b % m) m k = 0 := by
        intro k
        induction k with
        | zero => rfl
        | succ k ih =>
          show Iv.fs 0 (b % m) m k + (0 * (k : Int) + b % m) / m = 0
          rw [ih, Int.zero_mul, Int.zero_add, Int.zero_add]
          exact Int.ediv_eq_zero_of_lt rb0 rb1
      exact this _
    rw [f0]
    show 0 * n - 0 + _ + _ = _
    omega
  · have sw := Iv.fs_swap (a % m) (b % m) m (by omega) ra1 rb0 rb1 n.toNat
    rw [en] at sw
    have c : (a % m * n + b % m) / m * n = n * ((a % m * n + b % m) / m) := Int.mul_comm ..
    omega
/-- THE STEPS of a sum of whole parts -/
theorem steps_ok : ∀ (M f : Nat) (n a b m : Int) (acc : List (Int × Int × Int × Int × Int × Int × Int)), 0 ≤ n → n < 100000 → a.natAbs < 1000000000000 → b.natAbs < 1000000000000 → (n = 0 ∨ (0 < m ∧ m < 1073741824 ∧ m ≤ M)) → M + 1 < f → acc.length + M + 1 < 10000000 →
    ∃ st l, Iv.iterO m_steps_of_sums_t1 m_steps_of_sums_b1 f (n, a, b, m, acc) = some st ∧ st.2.2.2.2 = acc ++ l ∧ Iv.foldO m_whole_sum_b1 l.reverse 0 = some (Iv.fs a b m n.toNat) ∧ ∃ t q, Iv.foldO m_whole_sums_b1 l.reverse (0, 0, 0) = some (Iv.fs a b m n.toNat, t, q) := by
  intro M
  induction M with
  | zero =>
    intro f n a b m acc n0 n1 a0 b0 hm hf hl
    have z : n = 0 := by omega
    subst z
    obtain ⟨f, rfl⟩ : ∃ k, f = k + 1 := ⟨f - 1, by omega⟩
    refine ⟨(0, a, b, m, acc), [], ?_, (List.append_nil acc).symm, rfl, 0, 0, rfl⟩
    rw [Iv.iterO_succ]
    rfl
  | succ M ih =>
    intro f n a b m acc n0 n1 a0 b0 hm hf hl
    obtain ⟨f, rfl⟩ : ∃ k, f = k + 1 := ⟨f - 1, by omega⟩
    by_cases z : n = 0
    · subst z
      refine ⟨(0, a, b, m, acc), [], ?_, (List.append_nil acc).symm, rfl, 0, 0, rfl⟩
      rw [Iv.iterO_succ]
      rfl
    · obtain ⟨m0, m1, mM⟩ : 0 < m ∧ m < 1073741824 ∧ m ≤ (M + 1 : Nat) := hm.resolve_left z
      have ra0 := Int.emod_nonneg a (b := m) (by omega)
      have ra1 := Int.emod_lt_of_pos a m0
      have rb0 := Int.emod_nonneg b (b := m) (by omega)
      have rb1 := Int.emod_lt_of_pos b m0
      have en0 : 0 ≤ a % m * n + b % m := by
        have := Int.mul_nonneg ra0 n0
        omega
      have e0 : 0 ≤ (a % m * n + b % m) / m := Int.ediv_nonneg en0 (by omega)
      have e1 : (a % m * n + b % m) / m < n + 1 := by
        rw [Int.ediv_lt_iff_lt_mul m0]
        have : a % m * n ≤ (m - 1) * n := Int.mul_le_mul_of_nonneg_right (by omega) n0
        rw [Int.sub_mul] at this
        rw [Int.add_mul, Int.mul_comm n m]
        omega
      have dm : Iv.divOk m = true := Iv.divOk_small (by omega) (by omega)
      have hb : m_steps_of_sums_b1 (n, a, b, m, acc) = some ((a % m * n + b % m) / m, m, m - b % m + a % m - 1, a % m, acc ++ [(n, a / m, b / m, a % m, b % m, m, (a % m * n + b % m) / m)]) := by
        unfold m_steps_of_sums_b1
        show (if Iv.divOk m = true then (if Iv.divOk m = true then (if m = 0 then none else (if m = 0 then none else (if Iv.mulOk (Iv.fmodI a m) n = true then (if Iv.divOk m = true then (if acc.length < Iv.LINE then some (Iv.fdivI (Iv.fmodI a m * n + Iv.fmodI b m) m, m, m - Iv.fmodI b m + Iv.fmodI a m - 1, Iv.fmodI a m, acc ++ [(n, Iv.fdivI a m, Iv.fdivI b m, Iv.fmodI a m, Iv.fmodI b m, m, Iv.fdivI (Iv.fmodI a m * n + Iv.fmodI b m) m)]) else none) else none) else none))) else none) else none) = _
        have hL : acc.length < Iv.LINE := by
          have : (10000000 : Nat) < Iv.LINE := by decide
          omega
        rw [if_pos dm, if_pos dm, if_neg (by omega), if_neg (by omega), if_pos (Iv.mulOk_r (by omega)), if_pos dm, if_pos hL, Iv.fmodI_pos m0, Iv.fmodI_pos m0, Iv.fdivI_pos m0, Iv.fdivI_pos m0, Iv.fdivI_pos m0]
      have hx : (a % m * n + b % m) / m = 0 ∨ (0 < a % m ∧ a % m < 1073741824 ∧ a % m ≤ (M : Int)) := by
        by_cases y : a % m = 0
        · left
          rw [y, Int.zero_mul, Int.zero_add]
          exact Int.ediv_eq_zero_of_lt rb0 rb1
        · right
          exact ⟨by omega, by omega, by omega⟩
      obtain ⟨st, l, q1, q2, q3, t0, q0, q4⟩ := ih f ((a % m * n + b % m) / m) m (m - b % m + a % m - 1) (a % m) (acc ++ [(n, a / m, b / m, a % m, b % m, m, (a % m * n + b % m) / m)]) e0 (by omega) (by omega) (by omega) hx (by omega) (by rw [List.length_append, List.length_singleton]; omega)
      refine ⟨st, (n, a / m, b / m, a % m, b % m, m, (a % m * n + b % m) / m) :: l, ?_, by rw [q2, List.append_assoc]; rfl, ?_, ?_⟩
      · rw [Iv.iterO_succ]
        show Iv.andO (some (decide (0 < n))) _ = _
        rw [decide_eq_true (by omega)]
        show Iv.andO (m_steps_of_sums_b1 (n, a, b, m, acc)) _ = _
        rw [hb]
        exact q1
      · rw [List.reverse_cons, foldO_append, q3]
        show Iv.andO (m_whole_sum_b1 (Iv.fs m (m - b % m + a % m - 1) (a % m) ((a % m * n + b % m) / m).toNat) (n, a / m, b / m, a % m, b % m, m, (a % m * n + b % m) / m)) (Iv.foldO m_whole_sum_b1 []) = _
        obtain ⟨t1, t2, t3⟩ := tri_ok n n0 (by omega)
        have hs : m_whole_sum_b1 (Iv.fs m (m - b % m + a % m - 1) (a % m) ((a % m * n + b % m) / m).toNat) (n, a / m, b / m, a % m, b % m, m, (a % m * n + b % m) / m) = some (Iv.fs a b m n.toNat) := by
          unfold m_whole_sum_b1
          show (if Iv.mulOk ((a % m * n + b % m) / m) n = true then Iv.andO (m_sum_of_numbers n) (fun w2 => if Iv.mulOk (a / m) w2 = true then (if Iv.mulOk (b / m) n = true then some ((((a % m * n + b % m) / m * n - Iv.fs m (m - b % m + a % m - 1) (a % m) ((a % m * n + b % m) / m).toNat) + a / m * w2) + b / m * n) else none) else none) else none) = _
          rw [if_pos (Iv.mulOk_r (by omega)), t1]
          show (if Iv.mulOk (a / m) (n * (n - 1) / 2) = true then (if Iv.mulOk (b / m) n = true then some _ else none) else none) = _
          rw [if_pos (Iv.mulOk_r (by omega)), if_pos (Iv.mulOk_r (by omega))]
          rw [whole_val a b m n n0 m0]
        rw [hs]; rfl
      · rw [List.reverse_cons, foldO_append, q4]
        show ∃ t q, Iv.andO (m_whole_sums_b1 (Iv.fs m (m - b % m + a % m - 1) (a % m) ((a % m * n + b % m) / m).toNat, t0, q0) (n, a / m, b / m, a % m, b % m, m, (a % m * n + b % m) / m)) (Iv.foldO m_whole_sums_b1 []) = some (_, t, q)
        obtain ⟨t1, t2, t3⟩ := tri_ok n n0 (by omega)
        obtain ⟨u1, u2⟩ := sq_ok n n0 n1
        have ka : (a / m).natAbs < 18446744073709551616 := by
          have := Int.mul_ediv_self_le (x := a) (k := m) (by omega)
          have := Int.lt_mul_ediv_self_add (x := a) (k := m) m0
          have : (a / m).natAbs ≤ a.natAbs := div_abs a m m0
          omega
        have kb : (b / m).natAbs < 9223372036854775808 := by
          have : (b / m).natAbs ≤ b.natAbs := div_abs b m m0
          omega
        have ka2 : (2 * (a / m)).natAbs < 18446744073709551616 := by
          have : (a / m).natAbs ≤ a.natAbs := div_abs a m m0
          omega
        have hs := sums_one (s := Iv.fs m (m - b % m + a % m - 1) (a % m) ((a % m * n + b % m) / m).toNat) (t := t0) (q := q0) (a := a % m) (b := b % m) (m := m) (e := (a % m * n + b % m) / m) (by omega) (by omega) ka ka2 kb trivial trivial n0 n1 t1 t2 t3 u1 u2 (whole_val a b m n n0 m0)
        rw [hs]
        exact ⟨_, _, rfl⟩
theorem whole_ok {n a b m : Int} (n0 : 0 ≤ n) (n1 : n < 100000) (a0 : a.natAbs < 1000000000000) (b0 : b.natAbs < 1000000000000) (m0 : 0 < m) (m1 : m < 5000000) : m_whole_sum n a b m = some (Iv.fs a b m n.toNat) ∧ ∃ t q, m_whole_sums n a b m = some (Iv.fs a b m n.toNat, t, q) := by
  obtain ⟨st, l, q1, q2, q3, t, q, q4⟩ := steps_ok m.toNat 1000000000000000000000000000000 n a b m [] n0 n1 a0 b0 (.inr ⟨m0, by omega, by omega⟩) (by omega) (by show 0 + m.toNat + 1 < _; omega)
  unfold m_whole_sum m_whole_sums m_steps_of_sums
  rw [q1]
  refine ⟨?_, t, q, ?_⟩
  · show Iv.andO (Iv.foldO m_whole_sum_b1 (List.reverse st.2.2.2.2) 0) _ = _
    rw [q2, List.nil_append, q3]
    rfl
  · show Iv.andO (Iv.foldO m_whole_sums_b1 (List.reverse st.2.2.2.2) (0, 0, 0)) _ = _
    rw [q2, List.nil_append, q4]
    rfl
end K42
end

section
set_option Elab.async false
set_option linter.all false
set_option maxRecDepth 100000
namespace K42
theorem rg_ok (i : Int) (h : -1000000 ≤ i) (h' : i ≤ 1000000) : Iv.rgOk i = true := by
  unfold Iv.rgOk
  rw [decide_eq_true (by omega), decide_eq_true (by omega)]
  rfl
theorem sumI_up (f : Int → Int) : ∀ (n : Nat) (lo : Int), Iv.sumI ((Iv.upTo lo n).map f) = Iv.sm (fun i => f (lo + i)) n
  | 0, _ => rfl
  | n + 1, lo => by
    rw [Iv.upTo_succ, List.map_cons, Iv.sm_head]
    show f lo + Iv.sumI _ = _
    rw [sumI_up f n (lo + 1)]
    have e0 : lo + ((0 : Nat) : Int) = lo := by omega
    rw [e0]
    congr 1
    refine Iv.sm_congr n fun i _ => ?_
    congr 1
    omega
theorem mem_up : ∀ (n : Nat) (lo k : Int), k ∈ Iv.upTo lo n → lo ≤ k ∧ k < lo + n
  | 0, _, _, h => nomatch h
  | n + 1, lo, k, h => by
    rw [Iv.upTo_succ] at h
    rcases List.mem_cons.mp h with q | q
    · omega
    · have := mem_up n (lo + 1) k q
      omega
/-- floor(kx) for k from 1 to n -/
def pt (n : Nat) (x : Int × Int) : Int := Iv.fs x.1 0 x.2 (n + 1)
theorem pt_eq (n : Nat) (x : Int × Int) : pt n x = Iv.sm (fun i => x.1 * ((i : Int) + 1) / x.2) n := by
  unfold pt Iv.fs
  rw [Iv.sm_head]
  have : (x.1 * ((0 : Nat) : Int) + 0) / x.2 = 0 := by
    rw [Int.natCast_zero, Int.mul_zero, Int.add_zero]
    exact Int.zero_ediv _
  rw [this, Int.zero_add]
  refine Iv.sm_congr n fun i _ => ?_
  rw [Int.add_zero]
  congr 1
theorem parts_ok {x : Int × Int} (n : Nat) (hn : n ≤ 5000) (q0 : 0 < x.2) (q1 : x.2 < 1000000) : m_parts_up_to (n : Int) x = some (pt n x) := by
  have hL : (10000000 : Nat) < Iv.LINE := by decide
  have en : ((n : Int) + 1 - 1).toNat = n := by omega
  unfold m_parts_up_to
  rw [rg_ok 1 (by omega) (by omega), rg_ok _ (by omega) (by omega), if_pos (by rfl : (true && true) = true), en]
  rw [Iv.lcO_all (f := m_parts_up_to_c1 x) (fun k => x.1 * k / x.2) (Iv.upTo 1 n) 0 (fun k hk => by
    have hk := mem_up n 1 k hk
    unfold m_parts_up_to_c1
    rw [if_pos (Iv.mulOk_r (by omega)), if_pos (Iv.divOk_small (by omega) (by omega)), Iv.fdivI_pos q0]) (by rw [Iv.upTo_len]; omega), Iv.andO_some, sumI_up, pt_eq]
  congr 1
  refine Iv.sm_congr n fun i _ => ?_
  rw [Int.add_comm 1 (i : Int)]
/-! floors: places from n on -/
theorem place_from_ok {p q r n : Int} (p0 : 0 < p) (p1 : p < 1000000) (hn : n.natAbs < 1000000) : m_place_from (p, q, r) n = some (-((r - q * n) / p)) := by
  unfold m_place_from
  dsimp only
  rw [if_pos (Iv.mulOk_r (by omega)), if_pos (Iv.divOk_small (by omega) (by omega)), Iv.fdivI_pos p0]
theorem tele (q p r : Int) : ∀ n : Nat, Iv.fs (0 - q) r p n - Iv.fs (0 - q) (r - q) p n = r / p - (r - q * n) / p
  | 0 => by
    show (0 : Int) - 0 = r / p - (r - q * 0) / p
    rw [Int.mul_zero, Int.sub_zero, Int.sub_zero, Int.sub_self]
  | n + 1 => by
    have ih := tele q p r n
    show (Iv.fs (0 - q) r p n + ((0 - q) * (n : Int) + r) / p) - (Iv.fs (0 - q) (r - q) p n + ((0 - q) * (n : Int) + (r - q)) / p) = _
    have e1 : (0 - q) * (n : Int) + r = r - q * n := by grind
    have e2 : (0 - q) * (n : Int) + (r - q) = r - q * ((n + 1 : Nat) : Int) := by
      rw [Int.natCast_add]
      grind
    rw [e1, e2]
    omega
theorem neg_div (u p : Int) (p0 : 0 < p) : (-u - 1) / p = -(u / p) - 1 := by
  have e := Int.emod_add_mul_ediv u p
  have r0 := Int.emod_nonneg u (b := p) (by omega)
  have r1 := Int.emod_lt_of_pos u p0
  have : -u - 1 = (p - 1 - u % p) + (-(u / p) - 1) * p := by
    have h : u = u % p + p * (u / p) := e.symm
    generalize u / p = w at *
    generalize u % p = v at *
    subst h
    grind
  rw [this, Int.add_mul_ediv_right _ _ (by omega), Int.ediv_eq_zero_of_lt (by omega) (by omega)]
  omega
theorem rest_id (p q r m : Int) (p0 : 0 < p) : -((((p - 1 - r) % p) - (p - q) * m) / p) - -((((p - 1 - r) % p) - (p - q) * 0) / p) = m - (r / p - (r - q * m) / p) := by
  have h := Int.emod_add_mul_ediv (p - 1 - r) p
  have e1 : (p - 1 - r) % p - (p - q) * m = (-(r - q * m) - 1) + (1 - m - (p - 1 - r) / p) * p := by grind
  have e2 : (p - 1 - r) % p - (p - q) * 0 = (-r - 1) + (1 - (p - 1 - r) / p) * p := by grind
  rw [e1, e2, Int.add_mul_ediv_right _ _ (by omega), Int.add_mul_ediv_right _ _ (by omega), neg_div _ p p0, neg_div r p p0]
  omega
theorem in_row (u p q : Int) (p0 : 0 < p) (q0 : 0 < q) (qp : q ≤ p) : (u % p < q) ↔ u / p - (u - q) / p = 1 := by
  have e := Int.emod_add_mul_ediv u p
  have r0 := Int.emod_nonneg u (b := p) (by omega)
  have r1 := Int.emod_lt_of_pos u p0
  by_cases c : u % p < q
  · have h : u - q = (u % p - q + p) + (u / p - 1) * p := by
      rw [Int.sub_mul, Int.mul_comm (u / p) p]
      omega
    have z : (u % p - q + p) / p = 0 := Int.ediv_eq_zero_of_lt (by omega) (by omega)
    have k : (u - q) / p = u / p - 1 := by
      rw [h, Int.add_mul_ediv_right _ _ (by omega), z]
      omega
    constructor
    · intro _; omega
    · intro _; exact c
  · have h : u - q = (u % p - q) + (u / p) * p := by
      rw [Int.mul_comm (u / p) p]
      omega
    have z : (u % p - q) / p = 0 := Int.ediv_eq_zero_of_lt (by omega) (by omega)
    have k : (u - q) / p = u / p := by
      rw [h, Int.add_mul_ediv_right _ _ (by omega), z]
      omega
    constructor
    · intro h; exact absurd h c
    · intro h; omega
end K42
end

section
set_option Elab.async false
set_option linter.all false
set_option maxRecDepth 100000
namespace K42
theorem selD {α : Type} (p : Prop) [Decidable p] (h : p) (A B : α) : Iv.selB (!decide p) A B = B := by rw [decide_eq_true h]; rfl
theorem floors_ok (σ : Iv.Src) (x : Int × Int) (hσ : σ.cells.length ≤ 63) (q0 : 0 < x.1) (qp : x.1 < x.2) (p1 : x.2 ≤ 1000) : ∃ σ', m_l_floors_right σ x = some (true, σ') ∧ σ'.cells.length ≤ 63 := by
  obtain ⟨q, p⟩ := x
  have q0 : 0 < q := q0
  have qp : q < p := qp
  have p1 : p ≤ 1000 := p1
  unfold m_l_floors_right
  obtain ⟨r', s1, e1, r0, r1, h1⟩ := pick_ok σ 401 hσ (by decide) (by decide)
  obtain ⟨m', s2, e2, m0, m1, h2⟩ := pick_ok s1 2000 h1 (by decide) (by decide)
  obtain ⟨n', s3, e3, n0, n1, h3⟩ := pick_ok s2 2001 h2 (by decide) (by decide)
  rw [e1, Iv.andO_some]
  dsimp only
  rw [e2, Iv.andO_some]
  dsimp only
  obtain ⟨r, er⟩ : ∃ r, r = r' - 200 := ⟨_, rfl⟩
  obtain ⟨m, em⟩ : ∃ m : Nat, 1 + m' = (m : Int) := ⟨(1 + m').toNat, by omega⟩
  rw [← er, em]
  have mt : ((m : Int)).toNat = m := Int.toNat_natCast m
  obtain ⟨w1, -⟩ := whole_ok (n := (m : Int)) (a := 0 - q) (b := r) (m := p) (by omega) (by omega) (by omega) (by omega) (by omega) (by omega)
  obtain ⟨w2, -⟩ := whole_ok (n := (m : Int)) (a := 0 - q) (b := r - q) (m := p) (by omega) (by omega) (by omega) (by omega) (by omega) (by omega)
  rw [w1, Iv.andO_some, w2, Iv.andO_some, mt, tele q p r m]
  have f1 : m_floor_count (p, q, r) (m : Int) = some (r / p - (r - q * m) / p) := by
    unfold m_floor_count
    rw [place_from_ok (by omega) (by omega) (by omega), Iv.andO_some, place_from_ok (by omega) (by omega) (by omega), Iv.andO_some]
    congr 1
    rw [Int.mul_zero, Int.sub_zero]
    omega
  have f2 : m_rest_floor_row (p, q, r) = some (p, p - q, (p - 1 - r) % p) := by
    unfold m_rest_floor_row
    dsimp only
    rw [if_neg (by omega), Iv.fmodI_pos (by omega)]
  have f3 : m_floor_count (p, p - q, (p - 1 - r) % p) (m : Int) = some ((m : Int) - (r / p - (r - q * m) / p)) := by
    unfold m_floor_count
    rw [place_from_ok (by omega) (by omega) (by omega), Iv.andO_some, place_from_ok (by omega) (by omega) (by omega), Iv.andO_some, rest_id p q r m (by omega)]
  rw [f1, Iv.andO_some, selD _ rfl, f2, Iv.andO_some, f3, Iv.andO_some, decide_eq_true rfl, Iv.andO_some]
  show ∃ σ', m_l_floors_right_k1 (p, q, r) q p r s2 = some (true, σ') ∧ _
  unfold m_l_floors_right_k1
  rw [e3, Iv.andO_some]
  dsimp only
  obtain ⟨n, en⟩ : ∃ n, n = n' - 1000 := ⟨_, rfl⟩
  rw [← en]
  have dv : Iv.divOk p = true := Iv.divOk_small (by omega) (by omega)
  unfold m_is_in_floor_row
  dsimp only
  rw [if_pos (Iv.mulOk_r (by omega)), if_neg (by omega), Iv.andO_some, if_pos (Iv.mulOk_r (by omega)), if_pos dv, if_pos (Iv.mulOk_r (by omega)), if_pos dv, Iv.fmodI_pos (by omega), Iv.fdivI_pos (by omega), Iv.fdivI_pos (by omega)]
  rw [Iv.bdec (in_row (r - q * n) p q (by omega) q0 (by omega)), decide_eq_true rfl]
  exact ⟨s3, rfl, h3⟩
/-! parts of fractions -/
theorem between_ok (σ : Iv.Src) (most : Int) (hσ : σ.cells.length ≤ 63) (m0 : 3 ≤ most) (m1 : most ≤ 1000) : ∃ x σ', m_l_between σ most = some (x, σ') ∧ 0 < x.1 ∧ x.1 < x.2 ∧ x.2 ≤ most ∧ Int.gcd x.1 x.2 = 1 ∧ σ'.cells.length ≤ 63 := by
  unfold m_l_between
  obtain ⟨q', s1, e1, q0, q1, h1⟩ := pick_ok σ (most - 1) hσ (by omega) (by omega)
  obtain ⟨q, eq⟩ : ∃ q, q = 2 + q' := ⟨_, rfl⟩
  obtain ⟨p', s2, e2, p0, p1, h2⟩ := pick_ok s1 (q - 1) h1 (by omega) (by omega)
  obtain ⟨p, ep⟩ : ∃ p, p = 1 + p' := ⟨_, rfl⟩
  rw [e1, Iv.andO_some]
  dsimp only
  rw [← eq, e2, Iv.andO_some]
  dsimp only
  rw [← ep]
  have ab : ∀ x : Int, (if x < 0 then -x else x) = (x.natAbs : Int) := fun x => by split <;> omega
  have ec : m_l_common p q = some (Iv.gcdI p q) := by
    unfold m_l_common
    rw [ab, ab, Iv.euclid_iter (t := m_l_common_t1) (f := m_l_common_b1) (fun a b _ => rfl) (fun a b h => by
      show (if b = 0 then none else some (b, Iv.fmodI a b)) = _
      rw [if_neg (by omega)]) 50 _ _ _ (by omega) (by omega) (by omega) (by omega), Iv.gcdI_abs]
    rfl
  have g0 := Iv.gcdI_pos (p := p) (q := q) (by omega)
  have g1 := Iv.gcdI_le (p := p) (q := q) (by omega)
  have d1 : Iv.gcdI p q ∣ p := Int.gcd_dvd_left ..
  have d2 : Iv.gcdI p q ∣ q := Int.gcd_dvd_right ..
  have dv : Iv.divOk (Iv.gcdI p q) = true := Iv.divOk_small (by omega) (by omega)
  rw [ec, Iv.andO_some, if_pos dv, if_pos dv, Iv.fdivI_pos g0, Iv.fdivI_pos g0]
  have hp := Int.ediv_mul_cancel d1
  have hq := Int.ediv_mul_cancel d2
  have pp : 0 < p / Iv.gcdI p q := Int.ediv_pos_of_pos_of_dvd (by omega) (by omega) d1
  refine ⟨_, s2, rfl, pp, ?_, ?_, ?_, h2⟩
  · show p / Iv.gcdI p q < q / Iv.gcdI p q
    refine Int.lt_of_mul_lt_mul_right (a := Iv.gcdI p q) ?_ (by omega)
    rw [hp, hq]
    omega
  · show q / Iv.gcdI p q ≤ most
    have := Int.ediv_le_self (Iv.gcdI p q) (by omega : 0 ≤ q)
    omega
  · exact Int.gcd_ediv_gcd_ediv_gcd_of_ne_zero_right (by omega)
end K42
end

section
set_option Elab.async false
set_option linter.all false
set_option maxRecDepth 100000
namespace K42
/-! the ring -/
def rr (x : Int × Int) (k : Int) : Int := k * x.1 % x.2
theorem place_ok {x : Int × Int} (q0 : 0 < x.2) (q1 : x.2 ≤ 1000) (k : Int) (k0 : k.natAbs < 1000000) : m_ring_place x k = some (Iv.low (rr x k) x.2) := by
  unfold m_ring_place m_fraction_of
  have g := Iv.gcdI_pos (p := rr x k) (q := x.2) (by omega)
  have dv : Iv.divOk (Iv.gcdI (rr x k) x.2) = true := Iv.divOk_gcd (m := 50) (by decide) (by omega) (by omega)
  rw [if_pos (Iv.mulOk_l (by omega)), if_neg (by omega), Iv.fmodI_pos q0, decide_eq_true q0]
  show Iv.andO (if Iv.divOk (Iv.gcdI (rr x k) x.2) = true then (if Iv.divOk (Iv.gcdI (rr x k) x.2) = true then some (Iv.fdivI (rr x k) (Iv.gcdI (rr x k) x.2), Iv.fdivI x.2 (Iv.gcdI (rr x k) x.2)) else none) else none) _ = _
  rw [if_pos dv, if_pos dv, Iv.fdivI_pos g, Iv.fdivI_pos g]
  unfold Iv.low
  rw [if_pos q0]
  rfl
/-- the counted ones, by a sum of noughts and ones -/
theorem cnt_up (p : Int → Bool) : ∀ (n : Nat) (lo : Int), (((Iv.upTo lo n).filter p).length : Int) = Iv.sm (fun i => if p (lo + i) then 1 else 0) n
  | 0, _ => rfl
  | n + 1, lo => by
    rw [Iv.upTo_succ, Iv.sm_head]
    have ih := cnt_up p n (lo + 1)
    have e0 : lo + ((0 : Nat) : Int) = lo := by omega
    have es : Iv.sm (fun i => if p (lo + ((i + 1 : Nat) : Int)) then 1 else 0) n = Iv.sm (fun i => if p (lo + 1 + i) then 1 else 0) n := Iv.sm_congr n fun i _ => by
      have : lo + ((i + 1 : Nat) : Int) = lo + 1 + i := by omega
      rw [this]
    rw [es, ← ih, e0]
    cases h : p lo with
    | true =>
      rw [List.filter_cons_of_pos h, List.length_cons]
      show ((_ + 1 : Nat) : Int) = 1 + _
      omega
    | false =>
      rw [List.filter_cons_of_neg (by rw [h]; decide)]
      show _ = 0 + _
      omega
theorem one_below (p q r s k : Int) (q0 : 0 < q) (s0 : 0 < s) (r0 : 0 ≤ r) (rs : r ≤ s) : (if k * p % q * s < r * q then (1 : Int) else 0) = (p * k + 0) / q - (p * s * k + (0 - r * q)) / (q * s) := by
  have e := Int.emod_add_mul_ediv (k * p) q
  have v0 := Int.emod_nonneg (k * p) (b := q) (by omega)
  have v1 := Int.emod_lt_of_pos (k * p) q0
  have qs : 0 < q * s := Int.mul_pos q0 s0
  rw [Int.add_zero, Int.mul_comm p k]
  have h : p * s * k + (0 - r * q) = (k * p % q * s - r * q) + (k * p / q) * (q * s) := by
    have : p * s * k = (k * p) * s := by grind
    rw [this]
    generalize k * p / q = w at *
    generalize k * p % q = v at *
    rw [← e]
    grind
  rw [h, Int.add_mul_ediv_right _ _ (by omega)]
  have b1 : k * p % q * s < q * s := Int.mul_lt_mul_of_pos_right v1 s0
  have b0 : 0 ≤ k * p % q * s := Int.mul_nonneg v0 (by omega)
  have c0 : 0 ≤ r * q := Int.mul_nonneg r0 (by omega)
  have c1 : r * q ≤ s * q := Int.mul_le_mul_of_nonneg_right rs (by omega)
  rw [Int.mul_comm s q] at c1
  by_cases c : k * p % q * s < r * q
  · have z : (k * p % q * s - r * q) / (q * s) = -1 := by
      have : k * p % q * s - r * q = (k * p % q * s - r * q + q * s) + (-1) * (q * s) := by omega
      rw [this, Int.add_mul_ediv_right _ _ (by omega), Int.ediv_eq_zero_of_lt (by omega) (by omega)]
      rfl
    rw [if_pos c, z]
    omega
  · have z : (k * p % q * s - r * q) / (q * s) = 0 := Int.ediv_eq_zero_of_lt (by omega) (by omega)
    rw [if_neg c, z]
    omega
theorem sm_sub (f g : Nat → Int) : ∀ n : Nat, Iv.sm (fun i => f i - g i) n = Iv.sm f n - Iv.sm g n
  | 0 => rfl
  | n + 1 => by
    show Iv.sm (fun i => f i - g i) n + (f n - g n) = (Iv.sm f n + f n) - (Iv.sm g n + g n)
    rw [sm_sub f g n]
    omega
theorem below_ok {x y : Int × Int} (q0 : 0 < x.2) (q1 : x.2 ≤ 1000) (s0 : 0 < y.2) (s1 : y.2 ≤ 1000) (r0 : 0 ≤ y.1) (rs : y.1 ≤ y.2) (m : Nat) (hm : m ≤ 5000) :
    m_points_below x (m : Int) y = some (Iv.fs x.1 0 x.2 m - Iv.fs (x.1 * y.2) (0 - y.1 * x.2) (x.2 * y.2) m) := by
  have hL : (10000000 : Nat) < Iv.LINE := by decide
  unfold m_points_below
  rw [if_pos (rg_ok _ (by omega) (by omega)), Int.toNat_natCast]
  rw [Iv.lcO_filter (f := m_points_below_c1 x y) (fun k => decide (k * x.1 % x.2 * y.2 < y.1 * x.2)) id _ 0 (fun k hk => by
    have hk := mem_up m 0 k hk
    unfold m_points_below_c1
    rw [if_pos (Iv.mulOk_l (by omega)), if_neg (by omega), if_pos (Iv.mulOk_r (by omega)), if_pos (Iv.mulOk_l (by omega)), Iv.fmodI_pos q0]
    cases decide (k * x.1 % x.2 * y.2 < y.1 * x.2) <;> rfl) (by rw [Iv.upTo_len]; omega), Iv.andO_some, List.map_id, cnt_up]
  congr 1
  unfold Iv.fs
  rw [← sm_sub]
  refine Iv.sm_congr m fun i _ => ?_
  have := one_below x.1 x.2 y.1 y.2 (0 + (i : Int)) q0 s0 r0 rs
  rw [Int.zero_add] at this ⊢
  rw [← this]
  by_cases c : (i : Int) * x.1 % x.2 * y.2 < y.1 * x.2
  · rw [if_pos c, decide_eq_true c]; rfl
  · rw [if_neg c, decide_eq_false c]; rfl
end K42
end

section
set_option Elab.async false
set_option linter.all false
set_option maxRecDepth 100000
namespace K42
theorem sumI_perm : ∀ {l m : List Int}, l.Perm m → Iv.sumI l = Iv.sumI m := by
  intro l m h
  induction h with
  | nil => rfl
  | cons x _ ih =>
    show x + Iv.sumI _ = x + Iv.sumI _
    rw [ih]
  | swap x y l =>
    show y + (x + Iv.sumI l) = x + (y + Iv.sumI l)
    omega
  | trans _ _ a b => exact a.trans b
theorem ring_b1 {x : Int × Int} (q0 : 0 < x.2) (q1 : x.2 ≤ 1000) (s k : Int) (k0 : k.natAbs < 1000000) : m_l_ring_right_b1 x x.2 s k = some (s + rr x k) := by
  unfold m_l_ring_right_b1
  rw [place_ok q0 q1 k k0, Iv.andO_some]
  have g := Iv.gcdI_pos (p := rr x k) (q := x.2) (by omega)
  have d1 : Iv.gcdI (rr x k) x.2 ∣ rr x k := Int.gcd_dvd_left ..
  have d2 : Iv.gcdI (rr x k) x.2 ∣ x.2 := Int.gcd_dvd_right ..
  have el : Iv.low (rr x k) x.2 = (rr x k / Iv.gcdI (rr x k) x.2, x.2 / Iv.gcdI (rr x k) x.2) := by
    unfold Iv.low
    rw [if_pos q0]
  rw [el]
  dsimp only
  generalize Iv.gcdI (rr x k) x.2 = gg at *
  have bp : 0 < x.2 / gg := Int.ediv_pos_of_pos_of_dvd q0 (by omega) d2
  have bl : x.2 / gg ≤ x.2 := Int.ediv_le_self _ (by omega)
  have eb : Iv.fdivI x.2 (x.2 / gg) = gg := by
    rw [Iv.fdivI_pos bp]
    have h := Int.ediv_mul_cancel d2
    refine Int.ediv_eq_of_eq_mul_left (by omega) ?_
    rw [Int.mul_comm]
    exact h.symm
  have gl : gg ≤ x.2 := Int.le_of_dvd q0 d2
  rw [eb, if_pos (Iv.divOk_small (by omega) (by omega)), if_pos (Iv.mulOk_r (by omega)), Int.ediv_mul_cancel d1]
theorem ring_fold {x : Int × Int} (q0 : 0 < x.2) (q1 : x.2 ≤ 1000) : ∀ (l : List Int) (s : Int), (∀ k ∈ l, k.natAbs < 1000000) → Iv.foldO (m_l_ring_right_b1 x x.2) l s = some (s + Iv.sumI (l.map (rr x)))
  | [], s, _ => by
    show some s = some (s + 0)
    rw [Int.add_zero]
  | k :: r, s, h => by
    rw [Iv.foldO_cons, ring_b1 q0 q1 s k (h k (List.mem_cons_self ..)), Iv.andO_some, ring_fold q0 q1 r _ fun y hy => h y (List.mem_cons_of_mem _ hy), List.map_cons]
    show some _ = some (s + (rr x k + Iv.sumI _))
    rw [Int.add_assoc]
theorem ring_row_ok {x : Int × Int} (q0 : 0 < x.2) (q1 : x.2 ≤ 1000) (m : Nat) (hm : m ≤ 5000) : ∃ l, m_ring_row x (m : Int) = some l ∧ l.Perm (Iv.upTo 0 m) := by
  have hL : (10000000 : Nat) < Iv.LINE := by decide
  unfold m_ring_row
  rw [if_pos (rg_ok _ (by omega) (by omega)), Int.toNat_natCast]
  rw [Iv.lcO_all (f := m_ring_row_c1 x) (fun k => (rr x k, k)) _ 0 (fun k hk => by
    have hk := mem_up m 0 k hk
    unfold m_ring_row_c1
    rw [if_pos (Iv.mulOk_l (by omega)), if_neg (by omega), Iv.fmodI_pos q0]
    rfl) (by rw [Iv.upTo_len]; omega), Iv.andO_some]
  have pp := Iv.psort_perm ((Iv.upTo 0 m).map fun k => (rr x k, k))
  rw [Iv.lcO_all (f := m_ring_row_c2) Prod.snd _ 0 (fun k _ => rfl) (by
    rw [pp.length_eq, List.length_map, Iv.upTo_len]
    omega), Iv.andO_some]
  refine ⟨_, rfl, ?_⟩
  have := pp.map Prod.snd
  rw [List.map_map] at this
  have e : (Prod.snd ∘ fun k => (rr x k, k)) = (id : Int → Int) := rfl
  rw [e, List.map_id] at this
  exact this
theorem ring_sum (p q : Int) (q0 : 0 < q) : ∀ m : Nat, Iv.sm (fun i => (0 + (i : Int)) * p % q) m = p * m * ((m : Int) - 1) / 2 - q * Iv.fs p 0 q m := by
  intro m
  have key : ∀ m : Nat, 2 * Iv.sm (fun i => (0 + (i : Int)) * p % q) m = p * m * ((m : Int) - 1) - 2 * (q * Iv.fs p 0 q m) := by
    intro m
    induction m with
    | zero =>
      show 2 * (0 : Int) = p * ((0 : Nat) : Int) * (((0 : Nat) : Int) - 1) - 2 * (q * 0)
      rw [Int.natCast_zero]
      simp
    | succ m ih =>
      show 2 * (Iv.sm (fun i => (0 + (i : Int)) * p % q) m + (0 + (m : Int)) * p % q) = p * ((m + 1 : Nat) : Int) * (((m + 1 : Nat) : Int) - 1) - 2 * (q * (Iv.fs p 0 q m + (p * (m : Int) + 0) / q))
      have e := Int.emod_add_mul_ediv ((m : Int) * p) q
      rw [Int.zero_add, Int.add_zero, Int.mul_comm p (m : Int), Int.natCast_add, Int.natCast_one]
      generalize (m : Int) * p / q = w at *
      generalize hv : (m : Int) * p % q = v at *
      generalize Iv.sm (fun i => (0 + (i : Int)) * p % q) m = a at *
      generalize Iv.fs p 0 q m = b at *
      grind
  have := key m
  omega
theorem ring_k1 {x : Int × Int} (q0 : 0 < x.2) (q1 : x.2 ≤ 1000) (p0 : x.1.natAbs < 1000000) (m : Nat) (hm : m ≤ 5000) (σ : Iv.Src) : m_l_ring_right_k1 x (m : Int) x.1 x.2 σ = some (true, σ) := by
  obtain ⟨l, e, hp⟩ := ring_row_ok q0 q1 m hm
  unfold m_l_ring_right_k1
  obtain ⟨w, -⟩ := whole_ok (n := (m : Int)) (a := x.1) (b := 0) (m := x.2) (by omega) (by omega) (by omega) (by decide) q0 (by omega)
  rw [Int.toNat_natCast] at w
  rw [e, Iv.andO_some, ring_fold q0 q1 l 0 (fun k hk => by
    have := mem_up m 0 k (hp.mem_iff.mp hk)
    omega), Iv.andO_some, if_pos (Iv.mulOk_r (by omega)), if_pos (Iv.mulOk_r (by omega)), w, Iv.andO_some, if_pos (Iv.mulOk_l (by omega)), sumI_perm (hp.map (rr x)), sumI_up, Iv.fdivI_pos (by decide)]
  have := ring_sum x.1 x.2 q0 m
  have e2 : Iv.sm (fun i => rr x (0 + (i : Int))) m = x.1 * m * ((m : Int) - 1) / 2 - x.2 * Iv.fs x.1 0 x.2 m := this
  rw [e2, Int.zero_add, decide_eq_true rfl]
end K42
end

section
set_option Elab.async false
set_option linter.all false
set_option maxRecDepth 100000
namespace K42
theorem of_ok (σ : Iv.Src) (l : List (Int × Int)) (P : Int × Int → Prop) (hσ : σ.cells.length ≤ 63) (h0 : 1 ≤ l.length) (hl : l.length < 1000) (h : ∀ x ∈ l, P x) : ∃ v σ', m_l_of σ l = some (v, σ') ∧ P v ∧ σ'.cells.length ≤ 63 := by
  unfold m_l_of
  obtain ⟨i, s1, e, i0, i1, hs⟩ := pick_ok σ l.length hσ (by omega) (by omega)
  have e1 : Iv.ixOf l.length i = some i.toNat := by
    obtain ⟨k, rfl⟩ : ∃ k : Nat, i = k := ⟨i.toNat, by omega⟩
    show (if k < l.length then some k else none) = _
    rw [if_pos (by omega)]
    rfl
  have hi : i.toNat < l.length := by omega
  have e2 : Iv.getL l i = some l[i.toNat] := by
    unfold Iv.getL
    rw [e1, Iv.andO_some, Iv.nthL_eq, List.getElem?_eq_getElem hi]
  rw [e, Iv.andO_some, e2]
  exact ⟨_, _, rfl, h _ (List.getElem_mem hi), hs⟩
theorem ring_ok (σ : Iv.Src) (x : Int × Int) (hσ : σ.cells.length ≤ 63) (p0 : 0 < x.1) (pq : x.1 < x.2) (q1 : x.2 ≤ 1000) : ∃ σ', m_l_ring_right σ x = some (true, σ') ∧ σ'.cells.length ≤ 63 := by
  have q0 : 0 < x.2 := by omega
  unfold m_l_ring_right
  obtain ⟨v, s1, e1, v0, v1, h1⟩ := pick_ok σ ((if (300 : Int) < x.2 then (300 : Int) else x.2) - (1 : Int)) hσ (by split <;> omega) (by split <;> omega)
  have v2 : v < 300 := by split at v1 <;> omega
  obtain ⟨y2, s2, e2, a1, a2, a3, -, h2⟩ := between_ok s1 40 h1 (by decide) (by decide)
  obtain ⟨k, s3, e3, k0, k1, h3⟩ := pick_ok s2 x.2 h2 (by omega) (by omega)
  obtain ⟨a, b, g, g0, d1, d2, d3, b0, b1⟩ := (show ∃ a b g : Int, 0 < g ∧ rr x k = a * g ∧ x.2 = b * g ∧ Iv.low (rr x k) x.2 = (a, b) ∧ 0 < b ∧ b ≤ x.2 by
    have g0 := Iv.gcdI_pos (p := rr x k) (q := x.2) (by omega)
    have d1 : Iv.gcdI (rr x k) x.2 ∣ rr x k := Int.gcd_dvd_left ..
    have d2 : Iv.gcdI (rr x k) x.2 ∣ x.2 := Int.gcd_dvd_right ..
    refine ⟨rr x k / Iv.gcdI (rr x k) x.2, x.2 / Iv.gcdI (rr x k) x.2, Iv.gcdI (rr x k) x.2, g0, (Int.ediv_mul_cancel d1).symm, (Int.ediv_mul_cancel d2).symm, ?_, Int.ediv_pos_of_pos_of_dvd q0 (by omega) d2, Int.ediv_le_self _ (by omega)⟩
    unfold Iv.low
    rw [if_pos q0])
  have r0 : 0 ≤ rr x k := Int.emod_nonneg _ (by omega)
  have r1 : rr x k < x.2 := Int.emod_lt_of_pos _ q0
  have ha0 : 0 ≤ a := by
    by_cases c : 0 ≤ a
    · exact c
    · have : a * g ≤ (-1) * g := Int.mul_le_mul_of_nonneg_right (by omega) (by omega)
      omega
  have hab : a ≤ b := by
    by_cases c : a ≤ b
    · exact c
    · have : (b + 1) * g ≤ a * g := Int.mul_le_mul_of_nonneg_right (by omega) (by omega)
      rw [Int.add_mul] at this
      omega
  obtain ⟨y, s4, e4, hy, h4⟩ := of_ok s3 [((0 : Int), (1 : Int)), ((1 : Int), (1 : Int)), y2, (a, b)] (fun y => 0 < y.2 ∧ y.2 ≤ 1000 ∧ 0 ≤ y.1 ∧ y.1 ≤ y.2) h3 (by simp) (by simp) (by
    intro y hy
    simp only [List.mem_cons, List.not_mem_nil, or_false] at hy
    rcases hy with rfl | rfl | rfl | rfl
    · decide
    · decide
    · omega
    · show 0 < b ∧ b ≤ 1000 ∧ 0 ≤ a ∧ a ≤ b
      omega)
  obtain ⟨s0, s9, t0, t1⟩ := hy
  obtain ⟨m, em⟩ : ∃ m : Nat, 2 + v = (m : Int) := ⟨(2 + v).toNat, by omega⟩
  rw [e1, Iv.andO_some]
  dsimp only
  rw [e2, Iv.andO_some]
  dsimp only
  rw [e3, Iv.andO_some]
  dsimp only
  rw [place_ok q0 q1 k (by omega), Iv.andO_some, d3, e4, Iv.andO_some]
  dsimp only
  rw [em]
  have mt : ((m : Int)).toNat = m := Int.toNat_natCast m
  have b1' : x.1 * y.2 ≤ 1000 * 1000 := Int.mul_le_mul (by omega) (by omega) (by omega) (by decide)
  have b2' : 0 ≤ x.1 * y.2 := Int.mul_nonneg (by omega) (by omega)
  have b3' : x.2 * y.2 ≤ 1000 * 1000 := Int.mul_le_mul (by omega) (by omega) (by omega) (by decide)
  have b4' : 0 < x.2 * y.2 := Int.mul_pos q0 s0
  have b5' : y.1 * x.2 ≤ 1000 * 1000 := Int.mul_le_mul (by omega) (by omega) (by omega) (by decide)
  have b6' : 0 ≤ y.1 * x.2 := Int.mul_nonneg t0 (by omega)
  obtain ⟨w1, -⟩ := whole_ok (n := (m : Int)) (a := x.1) (b := 0) (m := x.2) (by omega) (by omega) (by omega) (by decide) q0 (by omega)
  obtain ⟨w2, -⟩ := whole_ok (n := (m : Int)) (a := x.1 * y.2) (b := 0 - y.1 * x.2) (m := x.2 * y.2) (by omega) (by omega) (by omega) (by omega) b4' (by omega)
  rw [mt] at w1 w2
  rw [w1, Iv.andO_some, if_pos (Iv.mulOk_l (by omega)), if_pos (Iv.mulOk_r (by omega)), if_pos (Iv.mulOk_l (by omega)), w2, Iv.andO_some, below_ok q0 q1 s0 s9 t0 t1 m (by omega), Iv.andO_some, selD _ rfl, ring_k1 q0 q1 (by omega) m (by omega)]
  exact ⟨s4, rfl, h4⟩
end K42
end

section
set_option Elab.async false
set_option linter.all false
set_option autoImplicit false
set_option maxRecDepth 100000
namespace K42
/-- neighbours of row n -/
structure Nb (n : Int) (y z : Int × Int) : Prop where
  det : z.1 * y.2 - y.1 * z.2 = 1
  far : n < y.2 + z.2
  b0 : 0 < y.2
  b1 : y.2 ≤ n
  d0 : 0 < z.2
  d1 : z.2 ≤ n
theorem nb_gap {n : Int} {y z : Int × Int} (h : Nb n y z) {j k : Int} (h1 : y.1 * k < j * y.2) (h2 : j * z.2 < z.1 * k) : n < k := by
  have e : k = y.2 * (z.1 * k - j * z.2) + z.2 * (j * y.2 - y.1 * k) := by
    have := h.det
    have : k * (z.1 * y.2 - y.1 * z.2) = k := by rw [this, Int.mul_one]
    grind
  have a1 : y.2 * 1 ≤ y.2 * (z.1 * k - j * z.2) := Int.mul_le_mul_of_nonneg_left (by omega) (by have := h.b0; omega)
  have a2 : z.2 * 1 ≤ z.2 * (j * y.2 - y.1 * k) := Int.mul_le_mul_of_nonneg_left (by omega) (by have := h.d0; omega)
  have := h.far
  omega
/-- floors do not change between neighbours -/
theorem nb_low {n : Int} {y z x : Int × Int} (h : Nb n y z) (q0 : 0 < x.2) (h1 : y.1 * x.2 ≤ x.1 * y.2) (h2 : x.1 * z.2 < z.1 * x.2) {k : Int} (k0 : 0 < k) (kn : k ≤ n) : x.1 * k / x.2 = y.1 * k / y.2 := by
  have b0 := h.b0
  have d0 := h.d0
  refine Int.le_antisymm ?_ ?_
  · rw [Int.le_ediv_iff_mul_le b0]
    by_cases c : x.1 * k / x.2 * y.2 ≤ y.1 * k
    · exact c
    · exfalso
      have e : x.1 * k / x.2 * x.2 ≤ x.1 * k := Int.ediv_mul_le _ (by omega)
      generalize x.1 * k / x.2 = j at *
      have : j * z.2 < z.1 * k := by
        refine Int.lt_of_mul_lt_mul_right (a := x.2) ?_ (by omega)
        have u1 : j * x.2 * z.2 ≤ x.1 * k * z.2 := Int.mul_le_mul_of_nonneg_right e (by omega)
        have u2 : x.1 * z.2 * k < z.1 * x.2 * k := Int.mul_lt_mul_of_pos_right h2 k0
        have e1 : j * z.2 * x.2 = j * x.2 * z.2 := by grind
        have e2 : x.1 * k * z.2 = x.1 * z.2 * k := by grind
        have e3 : z.1 * k * x.2 = z.1 * x.2 * k := by grind
        omega
      have := nb_gap h (by omega) this
      omega
  · rw [Int.le_ediv_iff_mul_le q0]
    have e : y.1 * k / y.2 * y.2 ≤ y.1 * k := Int.ediv_mul_le _ (by omega)
    generalize y.1 * k / y.2 = j at *
    refine Int.le_of_mul_le_mul_right (a := y.2) ?_ b0
    have u1 : j * y.2 * x.2 ≤ y.1 * k * x.2 := Int.mul_le_mul_of_nonneg_right e (by omega)
    have u2 : y.1 * x.2 * k ≤ x.1 * y.2 * k := Int.mul_le_mul_of_nonneg_right h1 (by omega)
    have e1 : j * x.2 * y.2 = j * y.2 * x.2 := by grind
    have e2 : y.1 * k * x.2 = y.1 * x.2 * k := by grind
    have e3 : x.1 * k * y.2 = x.1 * y.2 * k := by grind
    omega
/-- at the next one they grow just where its bottom divides -/
theorem nb_high {n : Int} {y z : Int × Int} (h : Nb n y z) {k : Int} (k0 : 0 < k) (kn : k ≤ n) : z.1 * k / z.2 - y.1 * k / y.2 = if k % z.2 = 0 then 1 else 0 := by
  have b0 := h.b0
  have d0 := h.d0
  have det := h.det
  have e : z.1 * k / z.2 * z.2 ≤ z.1 * k := Int.ediv_mul_le _ (by omega)
  have up : y.1 * k * z.2 < z.1 * k * y.2 := by
    have : k * (z.1 * y.2 - y.1 * z.2) = k := by rw [det, Int.mul_one]
    have : z.1 * k * y.2 - y.1 * k * z.2 = k := by grind
    omega
  have g : Int.gcd z.2 z.1 = 1 := by
    have h1 : ((Int.gcd z.2 z.1 : Nat) : Int) ∣ 1 := by
      rw [← det]
      exact Int.dvd_sub (Int.dvd_mul_of_dvd_left (Int.gcd_dvd_right ..)) (Int.dvd_mul_of_dvd_right (Int.gcd_dvd_left ..))
    have := Int.le_of_dvd (by decide) h1
    have : 0 < Int.gcd z.2 z.1 := Int.gcd_pos_iff.mpr (Or.inl (by omega))
    omega
  by_cases c : k % z.2 = 0
  · rw [if_pos c]
    obtain ⟨t, rfl⟩ := Int.dvd_of_emod_eq_zero c
    have ej : z.1 * (z.2 * t) / z.2 = z.1 * t := by
      have : z.1 * (z.2 * t) = z.1 * t * z.2 := by grind
      rw [this, Int.mul_ediv_cancel _ (by omega)]
    rw [ej]
    have et : y.1 * (z.2 * t) / y.2 = z.1 * t - 1 := by
      have l1 : z.1 * t - 1 ≤ y.1 * (z.2 * t) / y.2 := by
        rw [Int.le_ediv_iff_mul_le b0]
        by_cases q : (z.1 * t - 1) * y.2 ≤ y.1 * (z.2 * t)
        · exact q
        · exfalso
          have : (z.1 * t - 1) * z.2 < z.1 * (z.2 * t) := by
            have : (z.1 * t - 1) * z.2 = z.1 * (z.2 * t) - z.2 := by grind
            omega
          have := nb_gap h (by omega) this
          omega
      have l2 : y.1 * (z.2 * t) / y.2 < z.1 * t := by
        rw [Int.ediv_lt_iff_lt_mul b0]
        refine Int.lt_of_mul_lt_mul_right (a := z.2) ?_ (by omega)
        have : z.1 * t * y.2 * z.2 = z.1 * (z.2 * t) * y.2 := by grind
        omega
      omega
    rw [et]
    omega
  · rw [if_neg c]
    have ne : z.1 * k / z.2 * z.2 ≠ z.1 * k := by
      intro z0
      have hd : z.2 ∣ z.1 * k := ⟨z.1 * k / z.2, by rw [Int.mul_comm z.2]; exact z0.symm⟩
      exact c (Int.emod_eq_zero_of_dvd (Iv.cop_dvd g hd))
    have l1 : z.1 * k / z.2 ≤ y.1 * k / y.2 := by
      rw [Int.le_ediv_iff_mul_le b0]
      by_cases q : z.1 * k / z.2 * y.2 ≤ y.1 * k
      · exact q
      · exfalso
        have := nb_gap h (k := k) (j := z.1 * k / z.2) (by omega) (by omega)
        omega
    have l2 : y.1 * k / y.2 ≤ z.1 * k / z.2 := by
      rw [Int.le_ediv_iff_mul_le d0]
      have e' : y.1 * k / y.2 * y.2 ≤ y.1 * k := Int.ediv_mul_le _ (by omega)
      generalize y.1 * k / y.2 = j at *
      refine Int.le_of_mul_le_mul_right (a := y.2) ?_ b0
      have u1 : j * y.2 * z.2 ≤ y.1 * k * z.2 := Int.mul_le_mul_of_nonneg_right e' (by omega)
      have e1 : j * z.2 * y.2 = j * y.2 * z.2 := by grind
      omega
    omega
end K42
end

section
set_option Elab.async false
set_option linter.all false
set_option autoImplicit false
set_option maxRecDepth 100000
namespace K42
def nxt (n : Int) (y z : Int × Int) : Int × Int := ((n + y.2) / z.2 * z.1 - y.1, (n + y.2) / z.2 * z.2 - y.2)
theorem nb_step {n : Int} {y z : Int × Int} (h : Nb n y z) : Nb n z (nxt n y z) := by
  have d0 := h.d0
  have d1 := h.d1
  have b0 := h.b0
  have det := h.det
  have e1 : (n + y.2) / z.2 * z.2 ≤ n + y.2 := Int.ediv_mul_le _ (by omega)
  have e2 : n + y.2 < ((n + y.2) / z.2 + 1) * z.2 := Int.lt_ediv_add_one_mul_self _ d0
  rw [Int.add_mul, Int.one_mul] at e2
  unfold nxt
  generalize (n + y.2) / z.2 = k at *
  refine ⟨?_, ?_, d0, d1, ?_, ?_⟩
  · show (k * z.1 - y.1) * z.2 - z.1 * (k * z.2 - y.2) = 1
    rw [← det]
    grind
  · show n < z.2 + (k * z.2 - y.2)
    omega
  · show 0 < k * z.2 - y.2
    omega
  · show k * z.2 - y.2 ≤ n
    omega
theorem nb_end {n : Int} {y z : Int × Int} (h : Nb n y z) (c : y.1 < y.2) : z.1 ≤ z.2 ∧ (z.1 = z.2 → z = (1, 1)) := by
  have d0 := h.d0
  have b0 := h.b0
  have det := h.det
  constructor
  · by_cases q : z.1 ≤ z.2
    · exact q
    · exfalso
      have a1 : (z.2 + 1) * y.2 ≤ z.1 * y.2 := Int.mul_le_mul_of_nonneg_right (by omega) (by omega)
      have a2 : y.1 * z.2 ≤ (y.2 - 1) * z.2 := Int.mul_le_mul_of_nonneg_right (by omega) (by omega)
      rw [Int.add_mul] at a1
      rw [Int.sub_mul, Int.mul_comm y.2 z.2] at a2
      omega
  · intro e
    rw [e] at det
    have a : z.2 * (y.2 - y.1) = 1 := by grind
    have u : z.2 = 1 := by
      have : z.2 * 1 ≤ z.2 * (y.2 - y.1) := Int.mul_le_mul_of_nonneg_left (by omega) (by omega)
      omega
    exact Prod.ext (by rw [e, u]) u
/-- what is left to go -/
def left (n : Int) (z : Int × Int) : Nat := (n * n * (z.2 - z.1) / z.2).toNat
theorem left_lt {n : Int} {y z : Int × Int} (h : Nb n y z) (c : y.1 < y.2) : left n z < left n y := by
  have d0 := h.d0
  have b0 := h.b0
  have d1 := h.d1
  have b1 := h.b1
  have det := h.det
  obtain ⟨c1, -⟩ := nb_end h c
  have nn : y.2 * z.2 ≤ n * n := Int.mul_le_mul b1 d1 (by omega) (by omega)
  have p0 : 0 ≤ n * n * (z.2 - z.1) / z.2 := Int.ediv_nonneg (Int.mul_nonneg (Int.mul_nonneg (by omega) (by omega)) (by omega)) (by omega)
  have key : n * n * (z.2 - z.1) / z.2 + 1 ≤ n * n * (y.2 - y.1) / y.2 := by
    rw [Int.le_ediv_iff_mul_le b0]
    refine Int.le_of_mul_le_mul_right (a := z.2) ?_ d0
    have e : n * n * (z.2 - z.1) / z.2 * z.2 ≤ n * n * (z.2 - z.1) := Int.ediv_mul_le _ (by omega)
    have u : n * n * (z.2 - z.1) / z.2 * z.2 * y.2 ≤ n * n * (z.2 - z.1) * y.2 := Int.mul_le_mul_of_nonneg_right e (by omega)
    generalize n * n * (z.2 - z.1) / z.2 = w at *
    generalize n * n = N at *
    have e1 : N * (y.2 - y.1) * z.2 - N * (z.2 - z.1) * y.2 = N := by
      have : N * (z.1 * y.2 - y.1 * z.2) = N := by rw [det, Int.mul_one]
      grind
    have e2 : (w + 1) * y.2 * z.2 = w * z.2 * y.2 + y.2 * z.2 := by grind
    omega
  unfold left
  omega
def Ch (n : Int) : List (Int × Int) → Prop
  | y :: z :: r => Nb n y z ∧ Ch n (z :: r)
  | _ => True
theorem ch_snoc {n : Int} : ∀ (l : List (Int × Int)) (y z : Int × Int), Ch n (l ++ [y]) → Nb n y z → Ch n (l ++ [y, z])
  | [], y, z, _, h => ⟨h, trivial⟩
  | [a], y, z, h, h' => ⟨h.1, h', trivial⟩
  | a :: b :: r, y, z, h, h' => ⟨h.1, ch_snoc (b :: r) y z h.2 h'⟩
end K42
end

section
set_option Elab.async false
set_option linter.all false
set_option maxRecDepth 100000
namespace K42
theorem get1 {β : Type} (l : List β) (y z : β) : Iv.getL (l ++ [y, z]) (-(1 : Int)) = some z := by
  unfold Iv.getL
  have e : Iv.ixOf (l ++ [y, z]).length (-(1 : Int)) = some (l.length + 1) := by
    show (if 0 < (l ++ [y, z]).length then some ((l ++ [y, z]).length - 1 - 0) else none) = _
    rw [List.length_append]
    show (if 0 < l.length + 2 then some (l.length + 2 - 1 - 0) else none) = _
    rw [if_pos (Nat.zero_lt_succ _)]
    rfl
  rw [e, Iv.andO_some, Iv.nthL_eq]
  simp
theorem get2 {β : Type} (l : List β) (y z : β) : Iv.getL (l ++ [y, z]) (-(2 : Int)) = some y := by
  unfold Iv.getL
  have e : Iv.ixOf (l ++ [y, z]).length (-(2 : Int)) = some l.length := by
    show (if 1 < (l ++ [y, z]).length then some ((l ++ [y, z]).length - 1 - 1) else none) = _
    rw [List.length_append]
    show (if 1 < l.length + 2 then some (l.length + 2 - 1 - 1) else none) = _
    rw [if_pos (by omega)]
    rfl
  rw [e, Iv.andO_some, Iv.nthL_eq]
  simp
structure Ok (n : Int) (s : List (Int × Int)) : Prop where
  ex : ∃ l y z, s = l ++ [y, z] ∧ Ch n (l ++ [y, z]) ∧ Nb n y z ∧ z.1 ≤ z.2 ∧ (z.1 = z.2 → z = (1, 1)) ∧ (l ++ [y, z]).length + left n z ≤ 100000
  hd : ∃ r, s = (0, 1) :: r
def mea (n : Int) (s : List (Int × Int)) : Nat := match s.getLast? with
  | some z => left n z
  | none => 0
theorem mea_eq (n : Int) (l : List (Int × Int)) (y z : Int × Int) : mea n (l ++ [y, z]) = left n z := by
  unfold mea
  have : (l ++ [y, z]).getLast? = some z := by simp
  rw [this]
theorem ch_last {n : Int} : ∀ (l : List (Int × Int)) (y z : Int × Int), Ch n (l ++ [y, z]) → Nb n y z
  | [], _, _, h => h.1
  | [a], y, z, h => ch_last [] y z h.2
  | a :: b :: r, y, z, h => ch_last (b :: r) y z h.2
theorem row_ok (n : Int) (n0 : 1 ≤ n) (n1 : n ≤ 150) : ∃ L, m_farey_row n = some L ∧ (∃ r, L = (0, 1) :: r) ∧ (∃ l y, L = l ++ [y, (1, 1)]) ∧ Ch n L := by
  have hL : (10000000 : Nat) < Iv.LINE := by decide
  have l0 : left n (1, n) ≤ 50000 := by
    unfold left
    have a : n * n * (n - 1) / n = n * (n - 1) := by
      have : n * n * (n - 1) = n * (n - 1) * n := by grind
      rw [this, Int.mul_ediv_cancel _ (by omega)]
    have b : n * (n - 1) ≤ 150 * 150 := Int.mul_le_mul n1 (by omega) (by omega) (by decide)
    show (n * n * (n - 1) / n).toNat ≤ _
    rw [a]
    omega
  have start : Ok n [((0 : Int), (1 : Int)), ((1 : Int), n)] := by
    have nb : Nb n (0, 1) (1, n) := ⟨by show 1 * 1 - 0 * n = 1; omega, by show n < 1 + n; omega, by decide, n0, by show 0 < n; omega, Int.le_refl n⟩
    refine ⟨⟨[], (0, 1), (1, n), rfl, ⟨nb, trivial⟩, nb, n0, fun e => ?_, ?_⟩, _, rfl⟩
    · have e : 1 = n := e
      rw [← e]
    · show 2 + left n (1, n) ≤ _
      omega
  obtain ⟨s, e, hs, ht⟩ := Iv.iterO_inv (t := m_farey_row_t1 n) (f := m_farey_row_b1 n) (Ok n) (mea n) (fun s hs => by
    obtain ⟨⟨l, y, z, rfl, hc, nb, z1, z2, hm⟩, r, hr⟩ := hs
    unfold m_farey_row_t1 m_farey_row_b1
    rw [get1, get2, Iv.andO_some]
    refine ⟨_, rfl, fun ht => ?_⟩
    have ne : z ≠ (1, 1) := by
      intro q
      rw [q] at ht
      simp at ht
    have zl : z.1 < z.2 := by
      by_cases q : z.1 = z.2
      · exact absurd (z2 q) ne
      · omega
    have nb2 := nb_step nb
    obtain ⟨c1, c2⟩ := nb_end nb2 zl
    have ll := left_lt nb2 zl
    have d0 := nb.d0
    have d1 := nb.d1
    have b1 := nb.b1
    have b0 := nb.b0
    have k0 : 0 ≤ (n + y.2) / z.2 := Int.ediv_nonneg (by omega) (by omega)
    have k1 : (n + y.2) / z.2 ≤ n + y.2 := Int.ediv_le_self _ (by omega)
    have em : m_member_behind n y z = some (nxt n y z) := by
      unfold m_member_behind nxt
      rw [if_pos (Iv.divOk_small (by omega) (by omega)), Iv.fdivI_pos d0, if_pos (Iv.mulOk_l (by omega)), if_pos (Iv.mulOk_l (by omega))]
    rw [Iv.andO_some, Iv.andO_some, em, Iv.andO_some, if_pos (by omega)]
    refine ⟨_, rfl, ⟨⟨l ++ [y], z, nxt n y z, by simp, ?_, nb2, c1, c2, ?_⟩, r ++ [nxt n y z], by rw [hr]; rfl⟩, ?_⟩
    · have := ch_snoc (l ++ [y]) z (nxt n y z) (by simpa using hc) nb2
      exact this
    · simp only [List.length_append, List.length_cons, List.length_nil] at hm ⊢
      omega
    · have e2 : l ++ [y, z] ++ [nxt n y z] = (l ++ [y]) ++ [z, nxt n y z] := by simp
      rw [e2, mea_eq, mea_eq]
      exact ll) 1000000000000000000000000000000 [((0 : Int), (1 : Int)), ((1 : Int), n)] start (by
    show mea n ([] ++ [((0 : Int), (1 : Int)), ((1 : Int), n)]) < _
    rw [mea_eq]
    omega)
  obtain ⟨⟨l, y, z, rfl, hc, nb, z1, z2, hm⟩, hr⟩ := hs
  unfold m_farey_row
  rw [e]
  unfold m_farey_row_t1 at ht
  rw [get1, Iv.andO_some] at ht
  have ez : z = (1, 1) := by
    by_cases q : z = (1, 1)
    · exact q
    · rw [decide_eq_false q] at ht
      simp at ht
  exact ⟨_, rfl, hr, ⟨l, y, by rw [ez]⟩, hc⟩
end K42
end

section
set_option Elab.async false
set_option linter.all false
set_option maxRecDepth 100000
namespace K42
/-! signs -/
def muL : List Int := [1, -1, -1, 0, -1, 1, -1, 0, 0, 1, -1, 0, -1, 1, 1, 0, -1, 0, -1, 0, 1, 1, -1, 0, 0, 1, 0, 0, -1, -1, -1, 0, 1, 1, 1, 0, -1, 1, 1, 0, -1, -1, -1, 0, 0, 1, -1, 0, 0, 0, 1, 0, -1, 0, 1, 0, 1, 1, -1, 0, -1, 1, 0, 0, 1, -1, -1, 0, 1, -1, -1, 0, -1, 1, 0, 0, 1, -1, -1, 0, 0, 1, -1, 0, 1, 1, 1, 0, -1, 0, 1, 0, 1, 1, 1, 0, -1, 0, 0, 0, -1, -1, -1, 0, -1, 1, -1, 0, -1, -1, 1, 0, -1, -1, 1, 0, 0, 1, 1, 0, 0, 1, 1, 0, 0, 0, -1, 0, 1, -1, -1, 0, 1, 1, 0, 0, -1, -1, -1, 0, 1, 1, 1, 0, 1, 1, 0, 0, -1, 0]
def mu (d : Nat) : Int := muL.getD (d - 1) 0
noncomputable def mobT : Nat → Bool
  | 0 => true
  | n + 1 => decide (m_mobius_of ((n + 1 : Nat) : Int) = some (mu (n + 1))) && mobT n
theorem mobT_at : ∀ (n : Nat), mobT n = true → ∀ d : Nat, 1 ≤ d → d ≤ n → m_mobius_of (d : Int) = some (mu d)
  | 0, _, d, h1, h2 => by omega
  | n + 1, h, d, h1, h2 => by
    have h : (decide (m_mobius_of ((n + 1 : Nat) : Int) = some (mu (n + 1))) && mobT n) = true := h
    rw [Bool.and_eq_true, decide_eq_true_eq] at h
    by_cases c : d = n + 1
    · rw [c]; exact h.1
    · exact mobT_at n h.2 d h1 (by omega)
theorem mob_tab : mobT 150 = true := by decide +kernel
theorem mob_ok (d : Nat) (h1 : 1 ≤ d) (h2 : d ≤ 150) : m_mobius_of (d : Int) = some (mu d) := mobT_at 150 mob_tab d h1 h2
def mert (N : Nat) : Nat → Int
  | 0 => 0
  | n + 1 => mert N n + mu (n + 1) * ((N / (n + 1) : Nat) : Int)
def mertT : Nat → Bool
  | 0 => true
  | n + 1 => decide (mert (n + 1) (n + 1) = 1) && mertT n
theorem mertT_at : ∀ (n : Nat), mertT n = true → ∀ d : Nat, 1 ≤ d → d ≤ n → mert d d = 1
  | 0, _, d, h1, h2 => by omega
  | n + 1, h, d, h1, h2 => by
    have h : (decide (mert (n + 1) (n + 1) = 1) && mertT n) = true := h
    rw [Bool.and_eq_true, decide_eq_true_eq] at h
    by_cases c : d = n + 1
    · rw [c]; exact h.1
    · exact mertT_at n h.2 d h1 (by omega)
theorem mert_tab : mertT 150 = true := by decide +kernel
theorem mert_more (N : Nat) : ∀ k : Nat, mert N (N + k) = mert N N
  | 0 => rfl
  | k + 1 => by
    show mert N (N + k) + mu (N + k + 1) * ((N / (N + k + 1) : Nat) : Int) = _
    rw [Nat.div_eq_of_lt (by omega), mert_more N k]
    simp
theorem mert_ok (N n : Nat) (h1 : 1 ≤ N) (h2 : N ≤ 150) (h3 : N ≤ n) : mert N n = 1 := by
  obtain ⟨k, rfl⟩ : ∃ k, n = N + k := ⟨n - N, by omega⟩
  rw [mert_more]
  exact mertT_at 150 mert_tab N h1 h2
/-- the place -/
def R (n : Nat) (x : Int × Int) : Int := Iv.sm (fun i => mu (i + 1) * pt (n / (i + 1)) x) n
theorem mu_small (d : Nat) : (mu d).natAbs ≤ 1 := by
  unfold mu
  rw [List.getD_eq_getElem?_getD]
  cases h : muL[d - 1]? with
  | none => decide
  | some v =>
    have hv := List.mem_of_getElem? h
    have : ∀ v ∈ muL, v.natAbs ≤ 1 := by decide +kernel
    exact this v hv
theorem place_go {x : Int × Int} (n : Nat) (hn : n ≤ 150) (q0 : 0 < x.2) (q1 : x.2 < 1000000) : ∀ (k lo : Nat) (s : Int), 1 ≤ lo → lo + k ≤ 151 →
    Iv.foldO (m_place_in_row_b1 (n : Int) x) (Iv.upTo (lo : Int) k) s = some (s + Iv.sm (fun i => mu (lo + i) * pt (n / (lo + i)) x) k)
  | 0, lo, s, _, _ => by
    show some s = some (s + 0)
    rw [Int.add_zero]
  | k + 1, lo, s, h1, h2 => by
    have hb : m_place_in_row_b1 (n : Int) x s (lo : Int) = some (s + mu lo * pt (n / lo) x) := by
      unfold m_place_in_row_b1
      rw [mob_ok lo h1 (by omega), Iv.andO_some]
      by_cases c : mu lo = 0
      · rw [decide_eq_true c, c, Int.zero_mul, Int.add_zero]
        rfl
      · have e : Iv.fdivI (n : Int) (lo : Int) = ((n / lo : Nat) : Int) := by
          rw [Iv.fdivI_pos (by omega)]
          exact (Int.natCast_ediv n lo).symm
        have le : n / lo ≤ n := Nat.div_le_self _ _
        have m1 := mu_small lo
        rw [decide_eq_false c]
        show Iv.andO (if Iv.divOk (lo : Int) = true then _ else none) _ = _
        rw [if_pos (Iv.divOk_small (by omega) (by omega)), e, parts_ok (n / lo) (by omega) q0 q1, Iv.andO_some, if_pos (Iv.mulOk_l (by omega))]
        rfl
    rw [Iv.upTo_succ, Iv.foldO_cons, hb, Iv.andO_some]
    have := place_go n hn q0 q1 k (lo + 1) (s + mu lo * pt (n / lo) x) (by omega) (by omega)
    have e0 : ((lo : Int) + 1) = ((lo + 1 : Nat) : Int) := by omega
    rw [e0, this, Iv.sm_head]
    have es : Iv.sm (fun i => mu (lo + (i + 1)) * pt (n / (lo + (i + 1))) x) k = Iv.sm (fun i => mu (lo + 1 + i) * pt (n / (lo + 1 + i)) x) k := Iv.sm_congr k fun i _ => by
      rw [show lo + (i + 1) = lo + 1 + i by omega]
    rw [es, Int.add_assoc]
    simp only [Nat.add_zero]
theorem place_row_ok {x : Int × Int} (n : Nat) (hn : n ≤ 150) (q0 : 0 < x.2) (q1 : x.2 < 1000000) : m_place_in_row (n : Int) x = some (R n x) := by
  unfold m_place_in_row
  rw [rg_ok 1 (by omega) (by omega), rg_ok _ (by omega) (by omega), if_pos (by rfl : (true && true) = true)]
  have en : ((n : Int) + 1 - 1).toNat = n := by omega
  have := place_go (x := x) n hn q0 q1 n 1 0 (by omega) (by omega)
  have this : Iv.foldO (m_place_in_row_b1 (n : Int) x) (Iv.upTo 1 n) 0 = some (0 + Iv.sm (fun i => mu (1 + i) * pt (n / (1 + i)) x) n) := this
  rw [en, this, Iv.andO_some, Int.zero_add]
  congr 1
  unfold R
  refine Iv.sm_congr n fun i _ => ?_
  rw [Nat.add_comm 1 i]
end K42
end

section
set_option Elab.async false
set_option linter.all false
set_option maxRecDepth 100000
namespace K42
theorem pt_low {n : Nat} {y z x : Int × Int} (h : Nb n y z) (q0 : 0 < x.2) (h1 : y.1 * x.2 ≤ x.1 * y.2) (h2 : x.1 * z.2 < z.1 * x.2) (m : Nat) (hm : m ≤ n) : pt m x = pt m y := by
  rw [pt_eq, pt_eq]
  refine Iv.sm_congr m fun i hi => ?_
  exact nb_low h q0 h1 h2 (by omega) (by omega)
theorem R_low {n : Nat} {y z x : Int × Int} (h : Nb n y z) (q0 : 0 < x.2) (h1 : y.1 * x.2 ≤ x.1 * y.2) (h2 : x.1 * z.2 < z.1 * x.2) : R n x = R n y := by
  unfold R
  refine Iv.sm_congr n fun i _ => ?_
  rw [pt_low h q0 h1 h2 _ (Nat.div_le_self _ _)]
theorem cnt_div (d : Int) (d0 : 0 < d) : ∀ m : Nat, Iv.sm (fun i => if ((i : Int) + 1) % d = 0 then 1 else 0) m = (m : Int) / d
  | 0 => by
    show (0 : Int) = ((0 : Nat) : Int) / d
    rw [Int.natCast_zero, Int.zero_ediv]
  | m + 1 => by
    show Iv.sm _ m + (if ((m : Int) + 1) % d = 0 then 1 else 0) = _
    rw [cnt_div d d0 m]
    have := Iv.fdiff ((m : Int) + 1) d d0
    rw [Int.natCast_add, Int.natCast_one, ← this]
    have e : (m : Int) + 1 - 1 = m := by omega
    rw [e]
    omega
theorem pt_high {n : Nat} {y z : Int × Int} (h : Nb n y z) (m : Nat) (hm : m ≤ n) : pt m z - pt m y = (m : Int) / z.2 := by
  rw [pt_eq, pt_eq, ← sm_sub, ← cnt_div z.2 h.d0 m]
  refine Iv.sm_congr m fun i hi => ?_
  exact nb_high h (by omega) (by omega)
theorem mert_sm (N : Nat) : ∀ n : Nat, Iv.sm (fun i => mu (i + 1) * ((N / (i + 1) : Nat) : Int)) n = mert N n
  | 0 => rfl
  | n + 1 => by
    show Iv.sm _ n + _ = mert N n + _
    rw [mert_sm N n]
theorem R_high {n : Nat} {y z : Int × Int} (h : Nb n y z) (hn : n ≤ 150) : R n z - R n y = 1 := by
  obtain ⟨D, eD⟩ : ∃ D : Nat, z.2 = (D : Int) := ⟨z.2.toNat, by have := h.d0; omega⟩
  have d0 := h.d0
  have d1 := h.d1
  unfold R
  rw [← sm_sub, ← mert_ok (n / D) n (by rw [Nat.le_div_iff_mul_le (by omega)]; omega) (Nat.le_trans (Nat.div_le_self _ _) hn) (Nat.div_le_self _ _), ← mert_sm]
  refine Iv.sm_congr n fun i _ => ?_
  rw [← Int.mul_sub, pt_high h _ (Nat.div_le_self _ _), eD, ← Int.natCast_ediv, Nat.div_div_eq_div_mul, Nat.div_div_eq_div_mul, Nat.mul_comm]
/-- where x stands in the row -/
theorem find {n : Nat} (hn : n ≤ 150) {x : Int × Int} (q0 : 0 < x.2) : ∀ (L : List (Int × Int)) (y : Int × Int) (l : List (Int × Int)) (w : Int × Int), Ch n (y :: L) → y :: L = l ++ [w] → 0 < w.2 → y.1 * x.2 ≤ x.1 * y.2 → x.1 * w.2 < w.1 * x.2 →
    ∃ (i : Nat) (u v : Int × Int), (y :: L)[i]? = some u ∧ Nb n u v ∧ u.1 * x.2 ≤ x.1 * u.2 ∧ x.1 * v.2 < v.1 * x.2 ∧ R n u = R n y + i
  | [], y, l, w, _, e, _, h1, h2 => by
    cases l with
    | nil =>
      cases e
      omega
    | cons a r =>
      cases r <;> cases e
  | z :: L, y, l, w, hc, e, w0, h1, h2 => by
    obtain ⟨nb, hc⟩ := hc
    by_cases c : x.1 * z.2 < z.1 * x.2
    · exact ⟨0, y, z, rfl, nb, h1, c, by simp⟩
    · cases l with
      | nil => cases e
      | cons a r =>
        have e' : z :: L = r ++ [w] := by
          injection e
        obtain ⟨i, u, v, a1, a2, a3, a4, a5⟩ := find hn q0 L z r w hc e' w0 (by omega) h2
        refine ⟨i + 1, u, v, by simpa using a1, a2, a3, a4, ?_⟩
        have := R_high nb hn
        rw [a5]
        omega
theorem R_zero (n : Nat) : R n (0, 1) = 0 := by
  have p0 : ∀ m, pt m (0, 1) = 0 := fun m => by
    rw [pt_eq]
    have : ∀ k : Nat, Iv.sm (fun i => (0 : Int) * ((i : Int) + 1) / 1) k = 0 := by
      intro k
      induction k with
      | zero => rfl
      | succ k ih =>
        show Iv.sm (fun i => (0 : Int) * ((i : Int) + 1) / 1) k + 0 * ((k : Int) + 1) / 1 = 0
        rw [ih, Int.zero_mul]
        rfl
    exact this m
  unfold R
  have : ∀ k : Nat, Iv.sm (fun i => mu (i + 1) * pt (n / (i + 1)) (0, 1)) k = 0 := by
    intro k
    induction k with
    | zero => rfl
    | succ k ih =>
      show Iv.sm (fun i => mu (i + 1) * pt (n / (i + 1)) (0, 1)) k + mu (k + 1) * pt (n / (k + 1)) (0, 1) = (0 : Int)
      rw [ih, p0, Int.mul_zero]
      rfl
  exact this n
end K42
end

section
set_option Elab.async false
set_option linter.all false
set_option maxRecDepth 100000
namespace K42
def phL : List Int := [1, 1, 2, 2, 4, 2, 6, 4, 6, 4, 10, 4, 12, 6, 8, 8, 16, 6, 18, 8, 12, 10, 22, 8, 20, 12, 18, 12, 28, 8, 30, 16, 20, 16, 24, 12, 36, 18, 24, 16, 40, 12, 42, 20, 24, 22, 46, 16, 42, 20, 32, 24, 52, 18, 40, 24, 36, 28, 58, 16, 60, 30, 36, 32, 48, 20, 66, 32, 44, 24, 70, 24, 72, 36, 40, 36, 60, 24, 78, 32, 54, 40, 82, 24, 64, 42, 56, 40, 88, 24, 72, 44, 60, 46, 72, 32, 96, 42, 60, 40, 100, 32, 102, 48, 48, 52, 106, 36, 108, 40, 72, 48, 112, 36, 88, 56, 72, 58, 96, 32, 110, 60, 80, 60, 100, 36, 126, 64, 84, 48, 130, 40, 108, 66, 72, 64, 136, 44, 138, 48, 92, 70, 120, 48, 112, 72, 84, 72, 148, 40]
def ph (d : Nat) : Int := phL.getD (d - 1) 0
noncomputable def phT : Nat → Bool
  | 0 => true
  | n + 1 => decide (m_count_apart ((n + 1 : Nat) : Int) = some (ph (n + 1))) && phT n
theorem phT_at : ∀ (n : Nat), phT n = true → ∀ d : Nat, 1 ≤ d → d ≤ n → m_count_apart (d : Int) = some (ph d)
  | 0, _, d, h1, h2 => by omega
  | n + 1, h, d, h1, h2 => by
    have h : (decide (m_count_apart ((n + 1 : Nat) : Int) = some (ph (n + 1))) && phT n) = true := h
    rw [Bool.and_eq_true, decide_eq_true_eq] at h
    by_cases c : d = n + 1
    · rw [c]; exact h.1
    · exact phT_at n h.2 d h1 (by omega)
theorem ph_tab : phT 150 = true := by decide +kernel
def phS : Nat → Int
  | 0 => 0
  | n + 1 => phS n + ph (n + 1)
def tri (N : Nat) : Nat → Int
  | 0 => 0
  | n + 1 => tri N n + mu (n + 1) * ((N / (n + 1) * (N / (n + 1) + 1) / 2 : Nat) : Int)
def szT : Nat → Bool
  | 0 => true
  | n + 1 => decide (phS (n + 1) = tri (n + 1) (n + 1)) && szT n
theorem szT_at : ∀ (n : Nat), szT n = true → ∀ d : Nat, 1 ≤ d → d ≤ n → phS d = tri d d
  | 0, _, d, h1, h2 => by omega
  | n + 1, h, d, h1, h2 => by
    have h : (decide (phS (n + 1) = tri (n + 1) (n + 1)) && szT n) = true := h
    rw [Bool.and_eq_true, decide_eq_true_eq] at h
    by_cases c : d = n + 1
    · rw [c]; exact h.1
    · exact szT_at n h.2 d h1 (by omega)
theorem sz_tab : szT 150 = true := by decide +kernel
theorem pt_one (m : Nat) : pt m (1, 1) = ((m * (m + 1) / 2 : Nat) : Int) := by
  have h2 : ∀ k : Nat, 2 * Iv.sm (fun i => (1 : Int) * ((i : Int) + 1) / 1) k = (k : Int) * ((k : Int) + 1) := by
    intro k
    induction k with
    | zero => rfl
    | succ k ih =>
      show 2 * (Iv.sm (fun i => (1 : Int) * ((i : Int) + 1) / 1) k + 1 * ((k : Int) + 1) / 1) = _
      rw [Int.one_mul, Int.ediv_one, Int.natCast_add, Int.natCast_one]
      generalize Iv.sm (fun i => (1 : Int) * ((i : Int) + 1) / 1) k = a at *
      grind
  rw [pt_eq]
  have := h2 m
  have e : ((m * (m + 1) / 2 : Nat) : Int) = (m : Int) * ((m : Int) + 1) / 2 := by
    rw [Int.natCast_ediv, Int.natCast_mul, Int.natCast_add]
    rfl
  rw [e]
  show Iv.sm (fun i => (1 : Int) * ((i : Int) + 1) / 1) m = _
  omega
theorem R_one (n : Nat) : R n (1, 1) = tri n n := by
  have : ∀ k : Nat, Iv.sm (fun i => mu (i + 1) * pt (n / (i + 1)) (1, 1)) k = tri n k := by
    intro k
    induction k with
    | zero => rfl
    | succ k ih =>
      show Iv.sm (fun i => mu (i + 1) * pt (n / (i + 1)) (1, 1)) k + mu (k + 1) * pt (n / (k + 1)) (1, 1) = tri n k + _
      rw [ih, pt_one]
  exact this n
theorem phS_sm : ∀ n : Nat, Iv.sm (fun i => ph (i + 1)) n = phS n
  | 0 => rfl
  | n + 1 => by
    show Iv.sm _ n + _ = phS n + _
    rw [phS_sm n]
theorem size_ok (n : Nat) (h1 : 1 ≤ n) (h2 : n ≤ 150) : m_row_size (n : Int) = some (R n (1, 1) + 1) := by
  have hL : (10000000 : Nat) < Iv.LINE := by decide
  have en : ((n : Int) + 1 - 1).toNat = n := by omega
  unfold m_row_size
  rw [rg_ok 1 (by omega) (by omega), rg_ok _ (by omega) (by omega), if_pos (by rfl : (true && true) = true), en]
  rw [Iv.lcO_all (f := m_row_size_c1) (fun k => ph k.toNat) (Iv.upTo 1 n) 0 (fun k hk => by
    have hk := mem_up n 1 k hk
    obtain ⟨d, rfl⟩ : ∃ d : Nat, k = d := ⟨k.toNat, by omega⟩
    unfold m_row_size_c1
    rw [phT_at 150 ph_tab d (by omega) (by omega)]
    rfl) (by rw [Iv.upTo_len]; omega), Iv.andO_some, sumI_up, R_one, ← szT_at 150 sz_tab n h1 h2, ← phS_sm, Int.add_comm]
  congr 2
  refine Iv.sm_congr n fun i _ => ?_
  congr 1
  omega
/-! the member -/
theorem gcd_det {u v : Int × Int} {n : Int} (h : Nb n u v) : Int.gcd u.1 u.2 = 1 := by
  have h1 : ((Int.gcd u.1 u.2 : Nat) : Int) ∣ 1 := by
    rw [← h.det]
    exact Int.dvd_sub (Int.dvd_mul_of_dvd_right (Int.gcd_dvd_right ..)) (Int.dvd_mul_of_dvd_left (Int.gcd_dvd_left ..))
  have := Int.le_of_dvd (by decide) h1
  have := h.b0
  have : 0 < Int.gcd u.1 u.2 := Int.gcd_pos_iff.mpr (Or.inr (by omega))
  omega
theorem member_ok (n : Nat) (h1 : 1 ≤ n) (h2 : n ≤ 150) (x : Int × Int) (p0 : 0 < x.1) (pq : x.1 < x.2) : ∃ u v, m_member_at (n : Int) (R n x) = some u ∧ Nb n u v ∧ u.1 * x.2 ≤ x.1 * u.2 ∧ x.1 * v.2 < v.1 * x.2 := by
  obtain ⟨L, e, ⟨r, hr⟩, ⟨l, y, hl⟩, hc⟩ := row_ok (n : Int) (by omega) (by omega)
  have hw : (0, 1) :: r = (l ++ [y]) ++ [((1 : Int), (1 : Int))] := by
    rw [← hr, hl]; simp
  rw [hr] at hc
  obtain ⟨i, u, v, a1, a2, a3, a4, a5⟩ := find h2 (x := x) (by omega) r (0, 1) (l ++ [y]) (1, 1) hc hw (by decide) (by show 0 * x.2 ≤ x.1 * 1; omega) (by show x.1 * 1 < 1 * x.2; omega)
  rw [R_zero, Int.zero_add] at a5
  have ex : R n x = (i : Int) := by
    rw [R_low a2 (by omega) a3 a4, a5]
  refine ⟨u, v, ?_, a2, a3, a4⟩
  unfold m_member_at
  rw [e, Iv.andO_some, ex, hr]
  have hi : i < ((0, 1) :: r : List (Int × Int)).length := by
    by_cases c : i < ((0, 1) :: r : List (Int × Int)).length
    · exact c
    · rw [List.getElem?_eq_none (by omega)] at a1
      cases a1
  have eg : Iv.getL ((0, 1) :: r : List (Int × Int)) (i : Int) = some u := by
    unfold Iv.getL
    have : Iv.ixOf ((0, 1) :: r : List (Int × Int)).length (i : Int) = some i := by
      show (if i < _ then some i else none) = _
      rw [if_pos hi]
    rw [this, Iv.andO_some, Iv.nthL_eq, a1]
  rw [eg]
  rfl
end K42
end

section
set_option Elab.async false
set_option linter.all false
set_option maxRecDepth 100000
namespace K42
theorem right_go {x : Int × Int} (n : Nat) (hn : n ≤ 150) (q0 : 0 < x.2) (q1 : x.2 < 1000000) (p1 : x.1.natAbs < 1000000) : ∀ (k lo : Nat) (s : Int), 1 ≤ lo → lo + k ≤ 151 →
    Iv.foldO (m_l_places_right_b1 (n : Int) x.1 x.2) (Iv.upTo (lo : Int) k) s = some (s + Iv.sm (fun i => mu (lo + i) * pt (n / (lo + i)) x) k)
  | 0, lo, s, _, _ => by
    show some s = some (s + 0)
    rw [Int.add_zero]
  | k + 1, lo, s, h1, h2 => by
    have hb : m_l_places_right_b1 (n : Int) x.1 x.2 s (lo : Int) = some (s + mu lo * pt (n / lo) x) := by
      unfold m_l_places_right_b1
      rw [mob_ok lo h1 (by omega), Iv.andO_some]
      by_cases c : mu lo = 0
      · rw [decide_eq_true c, c, Int.zero_mul, Int.add_zero]
        rfl
      · have e : Iv.fdivI (n : Int) (lo : Int) = ((n / lo : Nat) : Int) := by
          rw [Iv.fdivI_pos (by omega)]
          exact (Int.natCast_ediv n lo).symm
        have le : n / lo ≤ n := Nat.div_le_self _ _
        have m1 := mu_small lo
        generalize n / lo = t at *
        obtain ⟨w, -⟩ := whole_ok (n := ((t : Nat) : Int) + 1) (a := x.1) (b := 0) (m := x.2) (by omega) (by omega) (by omega) (by decide) q0 (by omega)
        have et : (((t : Nat) : Int) + 1).toNat = t + 1 := by omega
        rw [et] at w
        rw [decide_eq_false c]
        show Iv.andO (Iv.andO (some (mu lo)) fun w2 => _) _ = _
        simp only [Iv.andO_some]
        rw [if_pos (Iv.divOk_small (by omega) (by omega)), e, w, Iv.andO_some, if_pos (Iv.mulOk_l (by omega))]
        rfl
    rw [Iv.upTo_succ, Iv.foldO_cons, hb, Iv.andO_some]
    have := right_go n hn q0 q1 p1 k (lo + 1) (s + mu lo * pt (n / lo) x) (by omega) (by omega)
    have e0 : ((lo : Int) + 1) = ((lo + 1 : Nat) : Int) := by omega
    rw [e0, this, Iv.sm_head]
    have es : Iv.sm (fun i => mu (lo + (i + 1)) * pt (n / (lo + (i + 1))) x) k = Iv.sm (fun i => mu (lo + 1 + i) * pt (n / (lo + 1 + i)) x) k := Iv.sm_congr k fun i _ => by
      rw [show lo + (i + 1) = lo + 1 + i by omega]
    rw [es, Int.add_assoc]
    simp only [Nat.add_zero]
theorem right_ok {x : Int × Int} (n : Nat) (hn : n ≤ 150) (q0 : 0 < x.2) (q1 : x.2 < 1000000) (p1 : x.1.natAbs < 1000000) : m_l_places_right (n : Int) x = some true := by
  unfold m_l_places_right
  rw [rg_ok 1 (by omega) (by omega), rg_ok _ (by omega) (by omega), if_pos (by rfl : (true && true) = true)]
  have en : ((n : Int) + 1 - 1).toNat = n := by omega
  have := right_go (x := x) n hn q0 q1 p1 n 1 0 (by omega) (by omega)
  have this : Iv.foldO (m_l_places_right_b1 (n : Int) x.1 x.2) (Iv.upTo 1 n) 0 = some (0 + Iv.sm (fun i => mu (1 + i) * pt (n / (1 + i)) x) n) := this
  have er : Iv.sm (fun i => mu (1 + i) * pt (n / (1 + i)) x) n = R n x := by
    unfold R
    refine Iv.sm_congr n fun i _ => ?_
    rw [Nat.add_comm 1 i]
  rw [en, this, Iv.andO_some, place_row_ok n hn q0 q1, Iv.andO_some, Int.zero_add, er, decide_eq_true rfl]
theorem same_frac {u x : Int × Int} (u0 : 0 < u.2) (x0 : 0 < x.2) (gu : Int.gcd u.1 u.2 = 1) (gx : Int.gcd x.1 x.2 = 1) (h : u.1 * x.2 = x.1 * u.2) : u = x := by
  have d1 : u.2 ∣ x.2 := Iv.cop_dvd (a := u.1) (by rw [Int.gcd_comm]; exact gu) (by rw [h]; exact Int.dvd_mul_left ..)
  have d2 : x.2 ∣ u.2 := Iv.cop_dvd (a := x.1) (by rw [Int.gcd_comm]; exact gx) (by rw [← h]; exact Int.dvd_mul_left ..)
  have l1 := Int.le_of_dvd x0 d1
  have l2 := Int.le_of_dvd u0 d2
  have e : u.2 = x.2 := by omega
  rw [e] at h
  exact Prod.ext (Int.eq_of_mul_eq_mul_right (by omega) h) e
theorem k3_ok (n : Nat) (h1 : 1 ≤ n) (h2 : n ≤ 150) (x : Int × Int) (p0 : 0 < x.1) (pq : x.1 < x.2) (q1 : x.2 ≤ 1000) (gx : Int.gcd x.1 x.2 = 1) (σ : Iv.Src) (hσ : σ.cells.length ≤ 63) : ∃ σ', m_law_k3 (n : Int) (R n x) x σ = some (Iv.Ext.go σ') ∧ σ'.cells.length ≤ 63 := by
  obtain ⟨u, v, e, nb, a3, a4⟩ := member_ok n h1 h2 x p0 pq
  have b0 := nb.b0
  have b1 := nb.b1
  have d0 := nb.d0
  have det := nb.det
  have gu := gcd_det nb
  have v1 : 0 < v.1 := by
    have : 0 < x.1 * v.2 := Int.mul_pos p0 d0
    have : 0 * x.2 < v.1 * x.2 := by omega
    exact Int.lt_of_mul_lt_mul_right this (by omega)
  have u0 : 0 ≤ u.1 := by
    by_cases c : 0 ≤ u.1
    · exact c
    · have t1 : u.1 * v.2 ≤ (-1) * v.2 := Int.mul_le_mul_of_nonneg_right (by omega) (by omega)
      have t2 : 0 < v.1 * u.2 := Int.mul_pos v1 b0
      omega
  have u1 : u.1 < u.2 := by
    refine Int.lt_of_mul_lt_mul_right (a := x.2) ?_ (by omega)
    have : x.1 * u.2 < x.2 * u.2 := Int.mul_lt_mul_of_pos_right pq b0
    rw [Int.mul_comm u.2 x.2]
    omega
  have im : m_is_member (n : Int) u = some true := by
    unfold m_is_member m_is_fraction
    rw [Iv.lcO_all (f := m_is_fraction_c1) (fun _ => true) [u.1, u.2] 0 (fun _ _ => rfl) (by show 2 ≤ Iv.LINE; decide)]
    have g1 : (((Int.gcd u.1 u.2 : Nat) : Int) = (1 : Int)) := by rw [gu]; rfl
    simp only [Iv.andO_some, List.map_cons, List.map_nil]
    rw [decide_eq_true b0, decide_eq_true g1, decide_eq_true b1, decide_eq_true u0, decide_eq_true (show u.1 ≤ u.2 by omega)]
    rfl
  have eq : (x.2 ≤ (n : Int)) ↔ u = x := by
    constructor
    · intro hx
      by_cases c : u.1 * x.2 = x.1 * u.2
      · exact same_frac b0 (by omega) gu gx c
      · exfalso
        have := nb_gap nb (j := x.1) (k := x.2) (by omega) a4
        omega
    · intro hx
      rw [← hx]
      exact b1
  obtain ⟨s1, e1, z1⟩ := ring_ok σ x hσ p0 pq q1
  obtain ⟨s2, e2, z2⟩ := floors_ok s1 x z1 p0 pq q1
  refine ⟨s2, ?_, z2⟩
  unfold m_law_k3
  rw [e, Iv.andO_some, if_pos (Iv.mulOk_r (by omega)), if_pos (Iv.mulOk_l (by omega)), decide_eq_false (by omega), Iv.selB_false, im, Iv.bdec eq]
  rw [decide_eq_true (rfl : (decide (u = x)) = (decide (u = x)))]
  show m_law_k4 x σ = _
  unfold m_law_k4
  rw [e1, Iv.andO_some]
  show Iv.andO (Iv.andO (m_l_floors_right s1 x) _) _ = _
  rw [e2]
  rfl
theorem b1_ok (σ : Iv.Src) (i : Int) (hσ : σ.cells.length ≤ 63) : ∃ σ', m_law_b1 σ i = some (Iv.Ext.go σ') ∧ σ'.cells.length ≤ 63 := by
  unfold m_law_b1
  obtain ⟨x, s1, e1, p0, pq, q1, gx, h1⟩ := between_ok σ 1000 hσ (by decide) (by decide)
  obtain ⟨v, s2, e2, v0, v1, h2⟩ := pick_ok s1 2000 h1 (by decide) (by decide)
  obtain ⟨w, s3, e3, w0, w1, h3⟩ := pick_ok s2 150 h2 (by decide) (by decide)
  obtain ⟨n, en⟩ : ∃ n : Nat, 1 + v = (n : Int) := ⟨(1 + v).toNat, by omega⟩
  obtain ⟨m, em⟩ : ∃ m : Nat, 1 + w = (m : Int) := ⟨(1 + w).toNat, by omega⟩
  have et : ((n : Int) + 1).toNat = n + 1 := by omega
  obtain ⟨k1, t, q, k2⟩ := whole_ok (n := (n : Int) + 1) (a := x.1) (b := 0) (m := x.2) (by omega) (by omega) (by omega) (by decide) (by omega) (by omega)
  rw [et] at k1 k2
  have pk : m_parts_up_to (n : Int) x = some (Iv.fs x.1 0 x.2 (n + 1)) := parts_ok n (by omega) (by omega) (by omega)
  rw [e1, Iv.andO_some]
  dsimp only
  rw [e2, Iv.andO_some]
  dsimp only
  rw [en, k1, Iv.andO_some, pk, Iv.andO_some, selD _ rfl, k2, Iv.andO_some, decide_eq_true rfl, Iv.andO_some]
  show ∃ σ', m_law_k1 x s2 = some (Iv.Ext.go σ') ∧ _
  unfold m_law_k1
  rw [e3, Iv.andO_some]
  dsimp only
  rw [em, right_ok m (by omega) (by omega) (by omega) (by omega), Iv.andO_some]
  have pl := place_row_ok (x := ((1 : Int), (1 : Int))) m (by omega) (by decide) (by decide)
  rw [show (!true) = false from rfl, Iv.selB_false]
  rw [size_ok m (by omega) (by omega), Iv.andO_some, pl, Iv.andO_some, decide_eq_true rfl, show (!true) = false from rfl, Iv.andO_some]
  rw [Iv.selB_false]
  unfold m_law_k2
  rw [place_row_ok m (by omega) (by omega) (by omega), Iv.andO_some]
  exact k3_ok m (by omega) (by omega) x p0 pq q1 gx s3 h3
theorem law_true (ns : List Int) (hl : ns.length ≤ 63) : ∃ σ, m_law ns = some (true, σ) := by
  unfold m_law
  obtain ⟨σ, e, h0⟩ := open_ok ns hl
  rw [e, Iv.andO_some, if_pos (by decide)]
  obtain ⟨s, e1, -⟩ := Iv.foldX_inv (f := m_law_b1) (fun s => s.cells.length ≤ 63) (Iv.upTo 0 ((2 : Int)).toNat) σ (fun s x _ hs => b1_ok s x hs) h0
  rw [e1]
  exact ⟨s, rfl⟩
theorem keeps : Iv.LawOk f_law := fun ns hl => by
  obtain ⟨σ, e⟩ := law_true ns hl
  exact ⟨_, e_law ns _ (by rw [e]; rfl)⟩
end K42
end

section
set_option Elab.async false
set_option linter.all false
set_option maxRecDepth 100000
namespace K42
open PySem L2
theorem all_mk {l : PySem.W.OpenLaw} {w : World} {K : PySem.W.Frag} {h : Heap} {mg : Str → Option Value} {fa f1 f2 f3 f4 f5 f6 f7 f8 f9 f10 f11 f12 f13 f14 f15 f16 f17 f18 f19 f20 f21 f22 f23 f24 f25 f26 f27 f28 f29 f30 f31 f32 f33 : Addr} (X : K.In h) (G : h.Ns mainGlobals mg) (hfa : mg "law" = some (.ref fa))
    {od1 an1 od2 an2 od3 an3 od4 an4 od5 an5 od6 an6 od7 an7 od8 an8 od9 an9 od10 an10 od11 an11 od12 an12 od13 an13 od14 an14 od15 an15 od16 an16 od17 an17 od18 an18 od19 an19 od20 an20 od21 an21 od22 an22 od23 an23 od24 an24 od25 an25 od26 an26 od27 an27 od28 an28 od29 an29 od30 an30 od31 an31 od32 an32 od33 an33 : Option Addr} {sl1 sl2 sl3 sl4 sl5 sl6 sl7 sl8 sl9 sl10 sl11 sl12 sl13 sl14 sl15 sl16 sl17 sl18 sl19 sl20 sl21 sl22 sl23 sl24 sl25 sl26 sl27 sl28 sl29 sl30 sl31 sl32 sl33 : Array (Option Value)} {oc1 kV1 dc1 pm1 cd1 ct1 oc2 kV2 dc2 pm2 cd2 ct2 oc3 kV3 dc3 pm3 cd3 ct3 oc4 kV4 dc4 pm4 cd4 ct4 oc5 kV5 dc5 pm5 cd5 ct5 oc6 kV6 dc6 pm6 cd6 ct6 oc7 kV7 dc7 pm7 cd7 ct7 oc8 kV8 dc8 pm8 cd8 ct8 oc9 kV9 dc9 pm9 cd9 ct9 oc10 kV10 dc10 pm10 cd10 ct10 oc11 kV11 dc11 pm11 cd11 ct11 oc12 kV12 dc12 pm12 cd12 ct12 oc13 kV13 dc13 pm13 cd13 ct13 oc14 kV14 dc14 pm14 cd14 ct14 oc15 kV15 dc15 pm15 cd15 ct15 oc16 kV16 dc16 pm16 cd16 ct16 oc17 kV17 dc17 pm17 cd17 ct17 oc18 kV18 dc18 pm18 cd18 ct18 oc19 kV19 dc19 pm19 cd19 ct19 oc20 kV20 dc20 pm20 cd20 ct20 oc21 kV21 dc21 pm21 cd21 ct21 oc22 kV22 dc22 pm22 cd22 ct22 oc23 kV23 dc23 pm23 cd23 ct23 oc24 kV24 dc24 pm24 cd24 ct24 oc25 kV25 dc25 pm25 cd25 ct25 oc26 kV26 dc26 pm26 cd26 ct26 oc27 kV27 dc27 pm27 cd27 ct27 oc28 kV28 dc28 pm28 cd28 ct28 oc29 kV29 dc29 pm29 cd29 ct29 oc30 kV30 dc30 pm30 cd30 ct30 oc31 kV31 dc31 pm31 cd31 ct31 oc32 kV32 dc32 pm32 cd32 ct32 oc33 kV33 dc33 pm33 cd33 ct33 : Value}
    (a1 : PySem.W.nsIn K mainGlobals "_law_open_cells" = some (some (.ref f1))) (l1 : K.lookup f1 = some ⟨oc1, od1, .func (PySem.W.fnOf "_law_open_cells" "_law_open_cells" (defArgs (top 32)) (defBody (top 32)) (defScope (top 32)) .none kV1 dc1 pm1 an1 cd1 ct1), sl1⟩) (c1 : PySem.W.codeIn K cd1 "_law_open_cells" = true) (k1 : PySem.W.keepIn K (.ref f1) = true)
    (a2 : PySem.W.nsIn K mainGlobals "_law_pick" = some (some (.ref f2))) (l2 : K.lookup f2 = some ⟨oc2, od2, .func (PySem.W.fnOf "_law_pick" "_law_pick" (defArgs (top 33)) (defBody (top 33)) (defScope (top 33)) .none kV2 dc2 pm2 an2 cd2 ct2), sl2⟩) (c2 : PySem.W.codeIn K cd2 "_law_pick" = true) (k2 : PySem.W.keepIn K (.ref f2) = true)
    (a3 : PySem.W.nsIn K mainGlobals "_law_common" = some (some (.ref f3))) (l3 : K.lookup f3 = some ⟨oc3, od3, .func (PySem.W.fnOf "_law_common" "_law_common" (defArgs (top 35)) (defBody (top 35)) (defScope (top 35)) .none kV3 dc3 pm3 an3 cd3 ct3), sl3⟩) (c3 : PySem.W.codeIn K cd3 "_law_common" = true) (k3 : PySem.W.keepIn K (.ref f3) = true)
    (a4 : PySem.W.nsIn K mainGlobals "_law_between" = some (some (.ref f4))) (l4 : K.lookup f4 = some ⟨oc4, od4, .func (PySem.W.fnOf "_law_between" "_law_between" (defArgs (top 36)) (defBody (top 36)) (defScope (top 36)) .none kV4 dc4 pm4 an4 cd4 ct4), sl4⟩) (c4 : PySem.W.codeIn K cd4 "_law_between" = true) (k4 : PySem.W.keepIn K (.ref f4) = true)
    (a5 : PySem.W.nsIn K mainGlobals "steps_of_sums" = some (some (.ref f5))) (l5 : K.lookup f5 = some ⟨oc5, od5, .func (PySem.W.fnOf "steps_of_sums" "steps_of_sums" (defArgs (top 28)) (defBody (top 28)) (defScope (top 28)) .none kV5 dc5 pm5 an5 cd5 ct5), sl5⟩) (c5 : PySem.W.codeIn K cd5 "steps_of_sums" = true) (k5 : PySem.W.keepIn K (.ref f5) = true)
    (a6 : PySem.W.nsIn K mainGlobals "sum_of_numbers" = some (some (.ref f6))) (l6 : K.lookup f6 = some ⟨oc6, od6, .func (PySem.W.fnOf "sum_of_numbers" "sum_of_numbers" (defArgs (top 26)) (defBody (top 26)) (defScope (top 26)) .none kV6 dc6 pm6 an6 cd6 ct6), sl6⟩) (c6 : PySem.W.codeIn K cd6 "sum_of_numbers" = true) (k6 : PySem.W.keepIn K (.ref f6) = true)
    (a7 : PySem.W.nsIn K mainGlobals "whole_sum" = some (some (.ref f7))) (l7 : K.lookup f7 = some ⟨oc7, od7, .func (PySem.W.fnOf "whole_sum" "whole_sum" (defArgs (top 30)) (defBody (top 30)) (defScope (top 30)) .none kV7 dc7 pm7 an7 cd7 ct7), sl7⟩) (c7 : PySem.W.codeIn K cd7 "whole_sum" = true) (k7 : PySem.W.keepIn K (.ref f7) = true)
    (a8 : PySem.W.nsIn K mainGlobals "sum_of_squares" = some (some (.ref f8))) (l8 : K.lookup f8 = some ⟨oc8, od8, .func (PySem.W.fnOf "sum_of_squares" "sum_of_squares" (defArgs (top 27)) (defBody (top 27)) (defScope (top 27)) .none kV8 dc8 pm8 an8 cd8 ct8), sl8⟩) (c8 : PySem.W.codeIn K cd8 "sum_of_squares" = true) (k8 : PySem.W.keepIn K (.ref f8) = true)
    (a9 : PySem.W.nsIn K mainGlobals "whole_sums" = some (some (.ref f9))) (l9 : K.lookup f9 = some ⟨oc9, od9, .func (PySem.W.fnOf "whole_sums" "whole_sums" (defArgs (top 29)) (defBody (top 29)) (defScope (top 29)) .none kV9 dc9 pm9 an9 cd9 ct9), sl9⟩) (c9 : PySem.W.codeIn K cd9 "whole_sums" = true) (k9 : PySem.W.keepIn K (.ref f9) = true)
    (a10 : PySem.W.nsIn K mainGlobals "parts_up_to" = some (some (.ref f10))) (l10 : K.lookup f10 = some ⟨oc10, od10, .func (PySem.W.fnOf "parts_up_to" "parts_up_to" (defArgs (top 17)) (defBody (top 17)) (defScope (top 17)) .none kV10 dc10 pm10 an10 cd10 ct10), sl10⟩) (c10 : PySem.W.codeIn K cd10 "parts_up_to" = true) (k10 : PySem.W.keepIn K (.ref f10) = true)
    (a11 : PySem.W.nsIn K mainGlobals "count_apart" = some (some (.ref f11))) (l11 : K.lookup f11 = some ⟨oc11, od11, .func (PySem.W.fnOf "count_apart" "count_apart" (defArgs (top 14)) (defBody (top 14)) (defScope (top 14)) .none kV11 dc11 pm11 an11 cd11 ct11), sl11⟩) (c11 : PySem.W.codeIn K cd11 "count_apart" = true) (k11 : PySem.W.keepIn K (.ref f11) = true)
    (a12 : PySem.W.nsIn K mainGlobals "row_size" = some (some (.ref f12))) (l12 : K.lookup f12 = some ⟨oc12, od12, .func (PySem.W.fnOf "row_size" "row_size" (defArgs (top 16)) (defBody (top 16)) (defScope (top 16)) .none kV12 dc12 pm12 an12 cd12 ct12), sl12⟩) (c12 : PySem.W.codeIn K cd12 "row_size" = true) (k12 : PySem.W.keepIn K (.ref f12) = true)
    (a13 : PySem.W.nsIn K mainGlobals "mobius_of" = some (some (.ref f13))) (l13 : K.lookup f13 = some ⟨oc13, od13, .func (PySem.W.fnOf "mobius_of" "mobius_of" (defArgs (top 15)) (defBody (top 15)) (defScope (top 15)) .none kV13 dc13 pm13 an13 cd13 ct13), sl13⟩) (c13 : PySem.W.codeIn K cd13 "mobius_of" = true) (k13 : PySem.W.keepIn K (.ref f13) = true)
    (a14 : PySem.W.nsIn K mainGlobals "place_in_row" = some (some (.ref f14))) (l14 : K.lookup f14 = some ⟨oc14, od14, .func (PySem.W.fnOf "place_in_row" "place_in_row" (defArgs (top 18)) (defBody (top 18)) (defScope (top 18)) .none kV14 dc14 pm14 an14 cd14 ct14), sl14⟩) (c14 : PySem.W.codeIn K cd14 "place_in_row" = true) (k14 : PySem.W.keepIn K (.ref f14) = true)
    (a15 : PySem.W.nsIn K mainGlobals "_law_places_right" = some (some (.ref f15))) (l15 : K.lookup f15 = some ⟨oc15, od15, .func (PySem.W.fnOf "_law_places_right" "_law_places_right" (defArgs (top 37)) (defBody (top 37)) (defScope (top 37)) .none kV15 dc15 pm15 an15 cd15 ct15), sl15⟩) (c15 : PySem.W.codeIn K cd15 "_law_places_right" = true) (k15 : PySem.W.keepIn K (.ref f15) = true)
    (a16 : PySem.W.nsIn K mainGlobals "member_behind" = some (some (.ref f16))) (l16 : K.lookup f16 = some ⟨oc16, od16, .func (PySem.W.fnOf "member_behind" "member_behind" (defArgs (top 12)) (defBody (top 12)) (defScope (top 12)) .none kV16 dc16 pm16 an16 cd16 ct16), sl16⟩) (c16 : PySem.W.codeIn K cd16 "member_behind" = true) (k16 : PySem.W.keepIn K (.ref f16) = true)
    (a17 : PySem.W.nsIn K mainGlobals "farey_row" = some (some (.ref f17))) (l17 : K.lookup f17 = some ⟨oc17, od17, .func (PySem.W.fnOf "farey_row" "farey_row" (defArgs (top 10)) (defBody (top 10)) (defScope (top 10)) .none kV17 dc17 pm17 an17 cd17 ct17), sl17⟩) (c17 : PySem.W.codeIn K cd17 "farey_row" = true) (k17 : PySem.W.keepIn K (.ref f17) = true)
    (a18 : PySem.W.nsIn K mainGlobals "member_at" = some (some (.ref f18))) (l18 : K.lookup f18 = some ⟨oc18, od18, .func (PySem.W.fnOf "member_at" "member_at" (defArgs (top 19)) (defBody (top 19)) (defScope (top 19)) .none kV18 dc18 pm18 an18 cd18 ct18), sl18⟩) (c18 : PySem.W.codeIn K cd18 "member_at" = true) (k18 : PySem.W.keepIn K (.ref f18) = true)
    (a19 : PySem.W.nsIn K mainGlobals "is_integer_value" = some (some (.ref f19))) (l19 : K.lookup f19 = some ⟨oc19, od19, .func (PySem.W.fnOf "is_integer_value" "is_integer_value" (defArgs (top 2)) (defBody (top 2)) (defScope (top 2)) .none kV19 dc19 pm19 an19 cd19 ct19), sl19⟩) (c19 : PySem.W.codeIn K cd19 "is_integer_value" = true) (k19 : PySem.W.keepIn K (.ref f19) = true)
    (a20 : PySem.W.nsIn K mainGlobals "is_fraction" = some (some (.ref f20))) (l20 : K.lookup f20 = some ⟨oc20, od20, .func (PySem.W.fnOf "is_fraction" "is_fraction" (defArgs (top 3)) (defBody (top 3)) (defScope (top 3)) .none kV20 dc20 pm20 an20 cd20 ct20), sl20⟩) (c20 : PySem.W.codeIn K cd20 "is_fraction" = true) (k20 : PySem.W.keepIn K (.ref f20) = true)
    (a21 : PySem.W.nsIn K mainGlobals "is_member" = some (some (.ref f21))) (l21 : K.lookup f21 = some ⟨oc21, od21, .func (PySem.W.fnOf "is_member" "is_member" (defArgs (top 11)) (defBody (top 11)) (defScope (top 11)) .none kV21 dc21 pm21 an21 cd21 ct21), sl21⟩) (c21 : PySem.W.codeIn K cd21 "is_member" = true) (k21 : PySem.W.keepIn K (.ref f21) = true)
    (a22 : PySem.W.nsIn K mainGlobals "place_from" = some (some (.ref f22))) (l22 : K.lookup f22 = some ⟨oc22, od22, .func (PySem.W.fnOf "place_from" "place_from" (defArgs (top 22)) (defBody (top 22)) (defScope (top 22)) .none kV22 dc22 pm22 an22 cd22 ct22), sl22⟩) (c22 : PySem.W.codeIn K cd22 "place_from" = true) (k22 : PySem.W.keepIn K (.ref f22) = true)
    (a23 : PySem.W.nsIn K mainGlobals "floor_count" = some (some (.ref f23))) (l23 : K.lookup f23 = some ⟨oc23, od23, .func (PySem.W.fnOf "floor_count" "floor_count" (defArgs (top 23)) (defBody (top 23)) (defScope (top 23)) .none kV23 dc23 pm23 an23 cd23 ct23), sl23⟩) (c23 : PySem.W.codeIn K cd23 "floor_count" = true) (k23 : PySem.W.keepIn K (.ref f23) = true)
    (a24 : PySem.W.nsIn K mainGlobals "rest_floor_row" = some (some (.ref f24))) (l24 : K.lookup f24 = some ⟨oc24, od24, .func (PySem.W.fnOf "rest_floor_row" "rest_floor_row" (defArgs (top 24)) (defBody (top 24)) (defScope (top 24)) .none kV24 dc24 pm24 an24 cd24 ct24), sl24⟩) (c24 : PySem.W.codeIn K cd24 "rest_floor_row" = true) (k24 : PySem.W.keepIn K (.ref f24) = true)
    (a25 : PySem.W.nsIn K mainGlobals "is_in_floor_row" = some (some (.ref f25))) (l25 : K.lookup f25 = some ⟨oc25, od25, .func (PySem.W.fnOf "is_in_floor_row" "is_in_floor_row" (defArgs (top 21)) (defBody (top 21)) (defScope (top 21)) .none kV25 dc25 pm25 an25 cd25 ct25), sl25⟩) (c25 : PySem.W.codeIn K cd25 "is_in_floor_row" = true) (k25 : PySem.W.keepIn K (.ref f25) = true)
    (a26 : PySem.W.nsIn K mainGlobals "_law_floors_right" = some (some (.ref f26))) (l26 : K.lookup f26 = some ⟨oc26, od26, .func (PySem.W.fnOf "_law_floors_right" "_law_floors_right" (defArgs (top 39)) (defBody (top 39)) (defScope (top 39)) .none kV26 dc26 pm26 an26 cd26 ct26), sl26⟩) (c26 : PySem.W.codeIn K cd26 "_law_floors_right" = true) (k26 : PySem.W.keepIn K (.ref f26) = true)
    (a27 : PySem.W.nsIn K mainGlobals "_law_of" = some (some (.ref f27))) (l27 : K.lookup f27 = some ⟨oc27, od27, .func (PySem.W.fnOf "_law_of" "_law_of" (defArgs (top 34)) (defBody (top 34)) (defScope (top 34)) .none kV27 dc27 pm27 an27 cd27 ct27), sl27⟩) (c27 : PySem.W.codeIn K cd27 "_law_of" = true) (k27 : PySem.W.keepIn K (.ref f27) = true)
    (a28 : PySem.W.nsIn K mainGlobals "fraction_of" = some (some (.ref f28))) (l28 : K.lookup f28 = some ⟨oc28, od28, .func (PySem.W.fnOf "fraction_of" "fraction_of" (defArgs (top 4)) (defBody (top 4)) (defScope (top 4)) .none kV28 dc28 pm28 an28 cd28 ct28), sl28⟩) (c28 : PySem.W.codeIn K cd28 "fraction_of" = true) (k28 : PySem.W.keepIn K (.ref f28) = true)
    (a29 : PySem.W.nsIn K mainGlobals "ring_place" = some (some (.ref f29))) (l29 : K.lookup f29 = some ⟨oc29, od29, .func (PySem.W.fnOf "ring_place" "ring_place" (defArgs (top 6)) (defBody (top 6)) (defScope (top 6)) .none kV29 dc29 pm29 an29 cd29 ct29), sl29⟩) (c29 : PySem.W.codeIn K cd29 "ring_place" = true) (k29 : PySem.W.keepIn K (.ref f29) = true)
    (a30 : PySem.W.nsIn K mainGlobals "points_below" = some (some (.ref f30))) (l30 : K.lookup f30 = some ⟨oc30, od30, .func (PySem.W.fnOf "points_below" "points_below" (defArgs (top 8)) (defBody (top 8)) (defScope (top 8)) .none kV30 dc30 pm30 an30 cd30 ct30), sl30⟩) (c30 : PySem.W.codeIn K cd30 "points_below" = true) (k30 : PySem.W.keepIn K (.ref f30) = true)
    (a31 : PySem.W.nsIn K mainGlobals "ring_row" = some (some (.ref f31))) (l31 : K.lookup f31 = some ⟨oc31, od31, .func (PySem.W.fnOf "ring_row" "ring_row" (defArgs (top 7)) (defBody (top 7)) (defScope (top 7)) .none kV31 dc31 pm31 an31 cd31 ct31), sl31⟩) (c31 : PySem.W.codeIn K cd31 "ring_row" = true) (k31 : PySem.W.keepIn K (.ref f31) = true)
    (a32 : PySem.W.nsIn K mainGlobals "_law_ring_right" = some (some (.ref f32))) (l32 : K.lookup f32 = some ⟨oc32, od32, .func (PySem.W.fnOf "_law_ring_right" "_law_ring_right" (defArgs (top 38)) (defBody (top 38)) (defScope (top 38)) .none kV32 dc32 pm32 an32 cd32 ct32), sl32⟩) (c32 : PySem.W.codeIn K cd32 "_law_ring_right" = true) (k32 : PySem.W.keepIn K (.ref f32) = true)
    (a33 : PySem.W.nsIn K mainGlobals "law" = some (some (.ref f33))) (l33 : K.lookup f33 = some ⟨oc33, od33, .func (PySem.W.fnOf "law" "law" (defArgs (top 40)) (defBody (top 40)) (defScope (top 40)) .none kV33 dc33 pm33 an33 cd33 ct33), sl33⟩) (c33 : PySem.W.codeIn K cd33 "law" = true) (k33 : PySem.W.keepIn K (.ref f33) = true)
    (gg : PySem.W.nsIn K mainGlobals "gcd" = some (some (.builtin "math.gcd"))) (z1 : PySem.W.nsIn K mainGlobals "abs" = some none) (z2 : PySem.W.nsIn K mainGlobals "int" = some none) (z3 : PySem.W.nsIn K mainGlobals "len" = some none) (z4 : PySem.W.nsIn K mainGlobals "max" = some none) (z5 : PySem.W.nsIn K mainGlobals "min" = some none) (z6 : PySem.W.nsIn K mainGlobals "sum" = some none) (z7 : PySem.W.nsIn K mainGlobals "tuple" = some none) (z8 : PySem.W.nsIn K mainGlobals "list" = some none) (z9 : PySem.W.nsIn K mainGlobals "bool" = some none) (z10 : PySem.W.nsIn K mainGlobals "range" = some none) (z11 : PySem.W.nsIn K mainGlobals "enumerate" = some none) (z12 : PySem.W.nsIn K mainGlobals "all" = some none) (z13 : PySem.W.nsIn K mainGlobals "any" = some none) (z14 : PySem.W.nsIn K mainGlobals "repr" = some none) (z15 : PySem.W.nsIn K mainGlobals "sorted" = some none) (z16 : PySem.W.nsIn K mainGlobals "isinstance" = some none) :
    ∃ fd : FuncData, (∀ (s : Shared) (v : Value), BindsTo s fd ⟨[v], []⟩ [("script", v)]) ∧ ∀ base : Heap, K.In base → base.Ns mainGlobals mg → Iv.FnG l.prog w K mg base 4 fa fd ["script"] (Iv.spD K f_law 1) := by
  have e := hfa.symm.trans (PySem.W.mg_of X G a33)
  cases e
  have hblt : ∀ y ∈ Iv.Blts, mg y = none := by
    intro y hy
    simp only [Iv.Blts, List.mem_cons, List.not_mem_nil, or_false] at hy
    rcases hy with rfl | rfl | rfl | rfl | rfl | rfl | rfl | rfl | rfl | rfl | rfl | rfl | rfl | rfl | rfl | rfl
    · exact PySem.W.mg_none_of X G z1
    · exact PySem.W.mg_none_of X G z2
    · exact PySem.W.mg_none_of X G z3
    · exact PySem.W.mg_none_of X G z4
    · exact PySem.W.mg_none_of X G z5
    · exact PySem.W.mg_none_of X G z6
    · exact PySem.W.mg_none_of X G z7
    · exact PySem.W.mg_none_of X G z8
    · exact PySem.W.mg_none_of X G z9
    · exact PySem.W.mg_none_of X G z10
    · exact PySem.W.mg_none_of X G z11
    · exact PySem.W.mg_none_of X G z12
    · exact PySem.W.mg_none_of X G z13
    · exact PySem.W.mg_none_of X G z14
    · exact PySem.W.mg_none_of X G z15
    · exact PySem.W.mg_none_of X G z16
  have F1 := fun_mk (st := top 32) l1 c1 k1
  have b1 := F1.binds (ps := ["script"]) fun _ _ _ _ _ _ us hl => match us, hl with | [_], _ => rfl
  have F2 := fun_mk (st := top 33) l2 c2 k2
  have b2 := F2.binds (ps := ["source", "most"]) fun _ _ _ _ _ _ us hl => match us, hl with | [_, _], _ => rfl
  have F3 := fun_mk (st := top 35) l3 c3 k3
  have b3 := F3.binds (ps := ["m", "n"]) fun _ _ _ _ _ _ us hl => match us, hl with | [_, _], _ => rfl
  have F4 := fun_mk (st := top 36) l4 c4 k4
  have b4 := F4.binds (ps := ["source", "most"]) fun _ _ _ _ _ _ us hl => match us, hl with | [_, _], _ => rfl
  have F5 := fun_mk (st := top 28) l5 c5 k5
  have b5 := F5.binds (ps := ["n", "a", "b", "m"]) fun _ _ _ _ _ _ us hl => match us, hl with | [_, _, _, _], _ => rfl
  have F6 := fun_mk (st := top 26) l6 c6 k6
  have b6 := F6.binds (ps := ["n"]) fun _ _ _ _ _ _ us hl => match us, hl with | [_], _ => rfl
  have F7 := fun_mk (st := top 30) l7 c7 k7
  have b7 := F7.binds (ps := ["n", "a", "b", "m"]) fun _ _ _ _ _ _ us hl => match us, hl with | [_, _, _, _], _ => rfl
  have F8 := fun_mk (st := top 27) l8 c8 k8
  have b8 := F8.binds (ps := ["n"]) fun _ _ _ _ _ _ us hl => match us, hl with | [_], _ => rfl
  have F9 := fun_mk (st := top 29) l9 c9 k9
  have b9 := F9.binds (ps := ["n", "a", "b", "m"]) fun _ _ _ _ _ _ us hl => match us, hl with | [_, _, _, _], _ => rfl
  have F10 := fun_mk (st := top 17) l10 c10 k10
  have b10 := F10.binds (ps := ["n", "x"]) fun _ _ _ _ _ _ us hl => match us, hl with | [_, _], _ => rfl
  have F11 := fun_mk (st := top 14) l11 c11 k11
  have b11 := F11.binds (ps := ["k"]) fun _ _ _ _ _ _ us hl => match us, hl with | [_], _ => rfl
  have F12 := fun_mk (st := top 16) l12 c12 k12
  have b12 := F12.binds (ps := ["n"]) fun _ _ _ _ _ _ us hl => match us, hl with | [_], _ => rfl
  have F13 := fun_mk (st := top 15) l13 c13 k13
  have b13 := F13.binds (ps := ["d"]) fun _ _ _ _ _ _ us hl => match us, hl with | [_], _ => rfl
  have F14 := fun_mk (st := top 18) l14 c14 k14
  have b14 := F14.binds (ps := ["n", "x"]) fun _ _ _ _ _ _ us hl => match us, hl with | [_, _], _ => rfl
  have F15 := fun_mk (st := top 37) l15 c15 k15
  have b15 := F15.binds (ps := ["n", "x"]) fun _ _ _ _ _ _ us hl => match us, hl with | [_, _], _ => rfl
  have F16 := fun_mk (st := top 12) l16 c16 k16
  have b16 := F16.binds (ps := ["n", "y", "z"]) fun _ _ _ _ _ _ us hl => match us, hl with | [_, _, _], _ => rfl
  have F17 := fun_mk (st := top 10) l17 c17 k17
  have b17 := F17.binds (ps := ["n"]) fun _ _ _ _ _ _ us hl => match us, hl with | [_], _ => rfl
  have F18 := fun_mk (st := top 19) l18 c18 k18
  have b18 := F18.binds (ps := ["n", "place"]) fun _ _ _ _ _ _ us hl => match us, hl with | [_, _], _ => rfl
  have F19 := fun_mk (st := top 2) l19 c19 k19
  have b19 := F19.binds (ps := ["value"]) fun _ _ _ _ _ _ us hl => match us, hl with | [_], _ => rfl
  have F20 := fun_mk (st := top 3) l20 c20 k20
  have b20 := F20.binds (ps := ["value"]) fun _ _ _ _ _ _ us hl => match us, hl with | [_], _ => rfl
  have F21 := fun_mk (st := top 11) l21 c21 k21
  have b21 := F21.binds (ps := ["n", "value"]) fun _ _ _ _ _ _ us hl => match us, hl with | [_, _], _ => rfl
  have F22 := fun_mk (st := top 22) l22 c22 k22
  have b22 := F22.binds (ps := ["row", "n"]) fun _ _ _ _ _ _ us hl => match us, hl with | [_, _], _ => rfl
  have F23 := fun_mk (st := top 23) l23 c23 k23
  have b23 := F23.binds (ps := ["row", "many"]) fun _ _ _ _ _ _ us hl => match us, hl with | [_, _], _ => rfl
  have F24 := fun_mk (st := top 24) l24 c24 k24
  have b24 := F24.binds (ps := ["row"]) fun _ _ _ _ _ _ us hl => match us, hl with | [_], _ => rfl
  have F25 := fun_mk (st := top 21) l25 c25 k25
  have b25 := F25.binds (ps := ["row", "n"]) fun _ _ _ _ _ _ us hl => match us, hl with | [_, _], _ => rfl
  have F26 := fun_mk (st := top 39) l26 c26 k26
  have b26 := F26.binds (ps := ["source", "x"]) fun _ _ _ _ _ _ us hl => match us, hl with | [_, _], _ => rfl
  have F27 := fun_mk (st := top 34) l27 c27 k27
  have b27 := F27.binds (ps := ["source", "some"]) fun _ _ _ _ _ _ us hl => match us, hl with | [_, _], _ => rfl
  have F28 := fun_mk (st := top 4) l28 c28 k28
  have b28 := F28.binds (ps := ["p", "q"]) fun _ _ _ _ _ _ us hl => match us, hl with | [_, _], _ => rfl
  have F29 := fun_mk (st := top 6) l29 c29 k29
  have b29 := F29.binds (ps := ["x", "k"]) fun _ _ _ _ _ _ us hl => match us, hl with | [_, _], _ => rfl
  have F30 := fun_mk (st := top 8) l30 c30 k30
  have b30 := F30.binds (ps := ["x", "many", "y"]) fun _ _ _ _ _ _ us hl => match us, hl with | [_, _, _], _ => rfl
  have F31 := fun_mk (st := top 7) l31 c31 k31
  have b31 := F31.binds (ps := ["x", "many"]) fun _ _ _ _ _ _ us hl => match us, hl with | [_, _], _ => rfl
  have F32 := fun_mk (st := top 38) l32 c32 k32
  have b32 := F32.binds (ps := ["source", "x"]) fun _ _ _ _ _ _ us hl => match us, hl with | [_, _], _ => rfl
  have F33 := fun_mk (st := top 40) l33 c33 k33
  refine ⟨PySem.W.fnOf "law" "law" (defArgs (top 40)) (defBody (top 40)) (defScope (top 40)) .none kV33 dc33 pm33 an33 cd33 ct33, fun s v => .of_eq rfl, fun base _ _ => ?_⟩
  have A1 : ∀ L', 1 ≤ L' → Iv.FnAt l.prog w K mg base L' "_law_open_cells" f_l_open_cells := fun L' hL => by rw [d_l_open_cells]; exact Iv.fnAt_of (M := M_l_open_cells) (L := 0) F1 s_l_open_cells rfl c_l_open_cells hblt Iv.fns_nil (PySem.W.mg_of X G a1) b1 hL
  have A2 : ∀ L', 1 ≤ L' → Iv.FnAt l.prog w K mg base L' "_law_pick" f_l_pick := fun L' hL => by rw [d_l_pick]; exact Iv.fnAt_of (M := M_l_pick) (L := 0) F2 s_l_pick rfl c_l_pick hblt Iv.fns_nil (PySem.W.mg_of X G a2) b2 hL
  have A3 : ∀ L', 1 ≤ L' → Iv.FnAt l.prog w K mg base L' "_law_common" f_l_common := fun L' hL => by rw [d_l_common]; exact Iv.fnAt_of (M := M_l_common) (L := 0) F3 s_l_common rfl c_l_common hblt Iv.fns_nil (PySem.W.mg_of X G a3) b3 hL
  have A4 : ∀ L', 2 ≤ L' → Iv.FnAt l.prog w K mg base L' "_law_between" f_l_between := fun L' hL => by rw [d_l_between]; exact Iv.fnAt_of (M := M_l_between) (L := 1) F4 s_l_between rfl c_l_between hblt (Iv.fns_cons (A2 _ (by decide)) (Iv.fns_cons (A3 _ (by decide)) Iv.fns_nil)) (PySem.W.mg_of X G a4) b4 hL
  have A5 : ∀ L', 1 ≤ L' → Iv.FnAt l.prog w K mg base L' "steps_of_sums" f_steps_of_sums := fun L' hL => by rw [d_steps_of_sums]; exact Iv.fnAt_of (M := M_steps_of_sums) (L := 0) F5 s_steps_of_sums rfl c_steps_of_sums hblt Iv.fns_nil (PySem.W.mg_of X G a5) b5 hL
  have A6 : ∀ L', 1 ≤ L' → Iv.FnAt l.prog w K mg base L' "sum_of_numbers" f_sum_of_numbers := fun L' hL => by rw [d_sum_of_numbers]; exact Iv.fnAt_of (M := M_sum_of_numbers) (L := 0) F6 s_sum_of_numbers rfl c_sum_of_numbers hblt Iv.fns_nil (PySem.W.mg_of X G a6) b6 hL
  have A7 : ∀ L', 2 ≤ L' → Iv.FnAt l.prog w K mg base L' "whole_sum" f_whole_sum := fun L' hL => by rw [d_whole_sum]; exact Iv.fnAt_of (M := M_whole_sum) (L := 1) F7 s_whole_sum rfl c_whole_sum hblt (Iv.fns_cons (A5 _ (by decide)) (Iv.fns_cons (A6 _ (by decide)) Iv.fns_nil)) (PySem.W.mg_of X G a7) b7 hL
  have A8 : ∀ L', 1 ≤ L' → Iv.FnAt l.prog w K mg base L' "sum_of_squares" f_sum_of_squares := fun L' hL => by rw [d_sum_of_squares]; exact Iv.fnAt_of (M := M_sum_of_squares) (L := 0) F8 s_sum_of_squares rfl c_sum_of_squares hblt Iv.fns_nil (PySem.W.mg_of X G a8) b8 hL
  have A9 : ∀ L', 2 ≤ L' → Iv.FnAt l.prog w K mg base L' "whole_sums" f_whole_sums := fun L' hL => by rw [d_whole_sums]; exact Iv.fnAt_of (M := M_whole_sums) (L := 1) F9 s_whole_sums rfl c_whole_sums hblt (Iv.fns_cons (A5 _ (by decide)) (Iv.fns_cons (A8 _ (by decide)) (Iv.fns_cons (A6 _ (by decide)) Iv.fns_nil))) (PySem.W.mg_of X G a9) b9 hL
  have A10 : ∀ L', 1 ≤ L' → Iv.FnAt l.prog w K mg base L' "parts_up_to" f_parts_up_to := fun L' hL => by rw [d_parts_up_to]; exact Iv.fnAt_of (M := M_parts_up_to) (L := 0) F10 s_parts_up_to rfl c_parts_up_to hblt Iv.fns_nil (PySem.W.mg_of X G a10) b10 hL
  have A11 : ∀ L', 1 ≤ L' → Iv.FnAt l.prog w K mg base L' "count_apart" f_count_apart := fun L' hL => by rw [d_count_apart]; exact Iv.fnAt_of (M := M_count_apart) (L := 0) F11 s_count_apart rfl c_count_apart hblt Iv.fns_nil (PySem.W.mg_of X G a11) b11 hL
  have A12 : ∀ L', 2 ≤ L' → Iv.FnAt l.prog w K mg base L' "row_size" f_row_size := fun L' hL => by rw [d_row_size]; exact Iv.fnAt_of (M := M_row_size) (L := 1) F12 s_row_size rfl c_row_size hblt (Iv.fns_cons (A11 _ (by decide)) Iv.fns_nil) (PySem.W.mg_of X G a12) b12 hL
  have A13 : ∀ L', 1 ≤ L' → Iv.FnAt l.prog w K mg base L' "mobius_of" f_mobius_of := fun L' hL => by rw [d_mobius_of]; exact Iv.fnAt_of (M := M_mobius_of) (L := 0) F13 s_mobius_of rfl c_mobius_of hblt Iv.fns_nil (PySem.W.mg_of X G a13) b13 hL
  have A14 : ∀ L', 2 ≤ L' → Iv.FnAt l.prog w K mg base L' "place_in_row" f_place_in_row := fun L' hL => by rw [d_place_in_row]; exact Iv.fnAt_of (M := M_place_in_row) (L := 1) F14 s_place_in_row rfl c_place_in_row hblt (Iv.fns_cons (A13 _ (by decide)) (Iv.fns_cons (A10 _ (by decide)) Iv.fns_nil)) (PySem.W.mg_of X G a14) b14 hL
  have A15 : ∀ L', 3 ≤ L' → Iv.FnAt l.prog w K mg base L' "_law_places_right" f_l_places_right := fun L' hL => by rw [d_l_places_right]; exact Iv.fnAt_of (M := M_l_places_right) (L := 2) F15 s_l_places_right rfl c_l_places_right hblt (Iv.fns_cons (A13 _ (by decide)) (Iv.fns_cons (A7 _ (by decide)) (Iv.fns_cons (A14 _ (by decide)) Iv.fns_nil))) (PySem.W.mg_of X G a15) b15 hL
  have A16 : ∀ L', 1 ≤ L' → Iv.FnAt l.prog w K mg base L' "member_behind" f_member_behind := fun L' hL => by rw [d_member_behind]; exact Iv.fnAt_of (M := M_member_behind) (L := 0) F16 s_member_behind rfl c_member_behind hblt Iv.fns_nil (PySem.W.mg_of X G a16) b16 hL
  have A17 : ∀ L', 2 ≤ L' → Iv.FnAt l.prog w K mg base L' "farey_row" f_farey_row := fun L' hL => by rw [d_farey_row]; exact Iv.fnAt_of (M := M_farey_row) (L := 1) F17 s_farey_row rfl c_farey_row hblt (Iv.fns_cons (A16 _ (by decide)) Iv.fns_nil) (PySem.W.mg_of X G a17) b17 hL
  have A18 : ∀ L', 3 ≤ L' → Iv.FnAt l.prog w K mg base L' "member_at" f_member_at := fun L' hL => by rw [d_member_at]; exact Iv.fnAt_of (M := M_member_at) (L := 2) F18 s_member_at rfl c_member_at hblt (Iv.fns_cons (A17 _ (by decide)) Iv.fns_nil) (PySem.W.mg_of X G a18) b18 hL
  have A19 : ∀ L', 1 ≤ L' → Iv.FnAt l.prog w K mg base L' "is_integer_value" f_is_integer_value := fun L' hL => by rw [d_is_integer_value]; exact Iv.fnAt_of (M := M_is_integer_value) (L := 0) F19 s_is_integer_value rfl c_is_integer_value hblt Iv.fns_nil (PySem.W.mg_of X G a19) b19 hL
  have A20 : ∀ L', 2 ≤ L' → Iv.FnAt l.prog w K mg base L' "is_fraction" f_is_fraction := fun L' hL => by rw [d_is_fraction]; exact Iv.fnAt_of (M := M_is_fraction) (L := 1) F20 s_is_fraction rfl c_is_fraction hblt (Iv.fns_cons (A19 _ (by decide)) (Iv.fns_cons (Iv.fnAt_gcd (PySem.W.mg_of X G gg)) Iv.fns_nil)) (PySem.W.mg_of X G a20) b20 hL
  have A21 : ∀ L', 3 ≤ L' → Iv.FnAt l.prog w K mg base L' "is_member" f_is_member := fun L' hL => by rw [d_is_member]; exact Iv.fnAt_of (M := M_is_member) (L := 2) F21 s_is_member rfl c_is_member hblt (Iv.fns_cons (A20 _ (by decide)) Iv.fns_nil) (PySem.W.mg_of X G a21) b21 hL
  have A22 : ∀ L', 1 ≤ L' → Iv.FnAt l.prog w K mg base L' "place_from" f_place_from := fun L' hL => by rw [d_place_from]; exact Iv.fnAt_of (M := M_place_from) (L := 0) F22 s_place_from rfl c_place_from hblt Iv.fns_nil (PySem.W.mg_of X G a22) b22 hL
  have A23 : ∀ L', 2 ≤ L' → Iv.FnAt l.prog w K mg base L' "floor_count" f_floor_count := fun L' hL => by rw [d_floor_count]; exact Iv.fnAt_of (M := M_floor_count) (L := 1) F23 s_floor_count rfl c_floor_count hblt (Iv.fns_cons (A22 _ (by decide)) Iv.fns_nil) (PySem.W.mg_of X G a23) b23 hL
  have A24 : ∀ L', 1 ≤ L' → Iv.FnAt l.prog w K mg base L' "rest_floor_row" f_rest_floor_row := fun L' hL => by rw [d_rest_floor_row]; exact Iv.fnAt_of (M := M_rest_floor_row) (L := 0) F24 s_rest_floor_row rfl c_rest_floor_row hblt Iv.fns_nil (PySem.W.mg_of X G a24) b24 hL
  have A25 : ∀ L', 1 ≤ L' → Iv.FnAt l.prog w K mg base L' "is_in_floor_row" f_is_in_floor_row := fun L' hL => by rw [d_is_in_floor_row]; exact Iv.fnAt_of (M := M_is_in_floor_row) (L := 0) F25 s_is_in_floor_row rfl c_is_in_floor_row hblt Iv.fns_nil (PySem.W.mg_of X G a25) b25 hL
  have A26 : ∀ L', 3 ≤ L' → Iv.FnAt l.prog w K mg base L' "_law_floors_right" f_l_floors_right := fun L' hL => by rw [d_l_floors_right]; exact Iv.fnAt_of (M := M_l_floors_right) (L := 2) F26 s_l_floors_right rfl c_l_floors_right hblt (Iv.fns_cons (A2 _ (by decide)) (Iv.fns_cons (A7 _ (by decide)) (Iv.fns_cons (A23 _ (by decide)) (Iv.fns_cons (A24 _ (by decide)) (Iv.fns_cons (A25 _ (by decide)) Iv.fns_nil))))) (PySem.W.mg_of X G a26) b26 hL
  have A27 : ∀ L', 2 ≤ L' → Iv.FnAt l.prog w K mg base L' "_law_of" f_l_of := fun L' hL => by rw [d_l_of]; exact Iv.fnAt_of (M := M_l_of) (L := 1) F27 s_l_of rfl c_l_of hblt (Iv.fns_cons (A2 _ (by decide)) Iv.fns_nil) (PySem.W.mg_of X G a27) b27 hL
  have A28 : ∀ L', 1 ≤ L' → Iv.FnAt l.prog w K mg base L' "fraction_of" f_fraction_of := fun L' hL => by rw [d_fraction_of]; exact Iv.fnAt_of (M := M_fraction_of) (L := 0) F28 s_fraction_of rfl c_fraction_of hblt (Iv.fns_cons (Iv.fnAt_gcd (PySem.W.mg_of X G gg)) Iv.fns_nil) (PySem.W.mg_of X G a28) b28 hL
  have A29 : ∀ L', 2 ≤ L' → Iv.FnAt l.prog w K mg base L' "ring_place" f_ring_place := fun L' hL => by rw [d_ring_place]; exact Iv.fnAt_of (M := M_ring_place) (L := 1) F29 s_ring_place rfl c_ring_place hblt (Iv.fns_cons (A28 _ (by decide)) Iv.fns_nil) (PySem.W.mg_of X G a29) b29 hL
  have A30 : ∀ L', 1 ≤ L' → Iv.FnAt l.prog w K mg base L' "points_below" f_points_below := fun L' hL => by rw [d_points_below]; exact Iv.fnAt_of (M := M_points_below) (L := 0) F30 s_points_below rfl c_points_below hblt Iv.fns_nil (PySem.W.mg_of X G a30) b30 hL
  have A31 : ∀ L', 1 ≤ L' → Iv.FnAt l.prog w K mg base L' "ring_row" f_ring_row := fun L' hL => by rw [d_ring_row]; exact Iv.fnAt_of (M := M_ring_row) (L := 0) F31 s_ring_row rfl c_ring_row hblt Iv.fns_nil (PySem.W.mg_of X G a31) b31 hL
  have A32 : ∀ L', 3 ≤ L' → Iv.FnAt l.prog w K mg base L' "_law_ring_right" f_l_ring_right := fun L' hL => by rw [d_l_ring_right]; exact Iv.fnAt_of (M := M_l_ring_right) (L := 2) F32 s_l_ring_right rfl c_l_ring_right hblt (Iv.fns_cons (A2 _ (by decide)) (Iv.fns_cons (A27 _ (by decide)) (Iv.fns_cons (A29 _ (by decide)) (Iv.fns_cons (A4 _ (by decide)) (Iv.fns_cons (A7 _ (by decide)) (Iv.fns_cons (A30 _ (by decide)) (Iv.fns_cons (A31 _ (by decide)) Iv.fns_nil))))))) (PySem.W.mg_of X G a32) b32 hL
  rw [d_law]
  exact Iv.def_ok (M := M_law) (L := 3) F33 s_law rfl c_law hblt (Iv.fns_cons (A1 _ (by decide)) (Iv.fns_cons (A2 _ (by decide)) (Iv.fns_cons (A4 _ (by decide)) (Iv.fns_cons (A7 _ (by decide)) (Iv.fns_cons (A9 _ (by decide)) (Iv.fns_cons (A10 _ (by decide)) (Iv.fns_cons (A12 _ (by decide)) (Iv.fns_cons (A14 _ (by decide)) (Iv.fns_cons (A15 _ (by decide)) (Iv.fns_cons (A18 _ (by decide)) (Iv.fns_cons (A21 _ (by decide)) (Iv.fns_cons (A26 _ (by decide)) (Iv.fns_cons (A32 _ (by decide)) Iv.fns_nil)))))))))))))
theorem walk {l : PySem.W.OpenLaw} {q : Program} {loose : List Str} {XP : (Str → Option Value) → Heap → Prop} {YP : World → Heap → Prop} {d : DefRec} {K : Params → PySem.W.Frag} (hn : l.most = some 63) (hdf : d.params.defaults = [])
    (hY : ∀ (w : World) (h : Heap), YP w h → (K w.params).In h)
    (F : ∀ (w : World) (mg : Str → Option Value) (fa : Addr) (h : Heap), (K w.params).In h → h.Ns mainGlobals mg → mg d.name = some (.ref fa) →
      ∃ fd : FuncData, (∀ (s : Shared) (u : Value), BindsTo s fd ⟨[u], []⟩ [("script", u)]) ∧ ∀ base : Heap, (K w.params).In base → base.Ns mainGlobals mg → Iv.FnG l.prog w (K w.params) mg base 4 fa fd ["script"] (Iv.spD (K w.params) f_law 1)) :
    PySem.W.WalkO q loose XP YP l.row.toRowW d [] (fun f vs => PySem.call f vs) :=
  Iv.walkG (m := 63) (n := 4) (x := "script") (sp := fun w => Iv.spD (K w.params) f_law 1) hn (by decide) hdf ⟨rfl, by decide, by decide⟩ hY F fun _ _ a ns hl hO hS => Iv.law_sp keeps hl hO hS _
end K42
open PySem PySem.W PyProof.Rows
set_option maxRecDepth 100000 in
set_option maxHeartbeats 0 in
theorem PySem.Challenge.cw_mediantrows_k42_whole_places_by_sums_and_holds : PySem.Challenge.rw_mediantrows_k42_whole_places_by_sums_and.Holds := by
  w_on; o_law; k_head; (case hw => w_witness2)
  k_fill
  refine K42.walk (l := PySem.Challenge.rw_mediantrows_k42_whole_places_by_sums_and) rfl rfl (fun w h Y => PySem.W.kIn_of Y) ?F
  case F =>
    intro w mg fa h KX G hmg
    refine' K42.all_mk KX G hmg ?a1 ?l1 ?c1 ?k1 ?a2 ?l2 ?c2 ?k2 ?a3 ?l3 ?c3 ?k3 ?a4 ?l4 ?c4 ?k4 ?a5 ?l5 ?c5 ?k5 ?a6 ?l6 ?c6 ?k6 ?a7 ?l7 ?c7 ?k7 ?a8 ?l8 ?c8 ?k8 ?a9 ?l9 ?c9 ?k9 ?a10 ?l10 ?c10 ?k10 ?a11 ?l11 ?c11 ?k11 ?a12 ?l12 ?c12 ?k12 ?a13 ?l13 ?c13 ?k13 ?a14 ?l14 ?c14 ?k14 ?a15 ?l15 ?c15 ?k15 ?a16 ?l16 ?c16 ?k16 ?a17 ?l17 ?c17 ?k17 ?a18 ?l18 ?c18 ?k18 ?a19 ?l19 ?c19 ?k19 ?a20 ?l20 ?c20 ?k20 ?a21 ?l21 ?c21 ?k21 ?a22 ?l22 ?c22 ?k22 ?a23 ?l23 ?c23 ?k23 ?a24 ?l24 ?c24 ?k24 ?a25 ?l25 ?c25 ?k25 ?a26 ?l26 ?c26 ?k26 ?a27 ?l27 ?c27 ?k27 ?a28 ?l28 ?c28 ?k28 ?a29 ?l29 ?c29 ?k29 ?a30 ?l30 ?c30 ?k30 ?a31 ?l31 ?c31 ?k31 ?a32 ?l32 ?c32 ?k32 ?a33 ?l33 ?c33 ?k33 ?gg ?z1 ?z2 ?z3 ?z4 ?z5 ?z6 ?z7 ?z8 ?z9 ?z10 ?z11 ?z12 ?z13 ?z14 ?z15 ?z16
    (case a1 => k_is)
    (case l1 => k_is)
    (case c1 => k_is)
    (case k1 => k_is)
    (case a2 => k_is)
    (case l2 => k_is)
    (case c2 => k_is)
    (case k2 => k_is)
    (case a3 => k_is)
    (case l3 => k_is)
    (case c3 => k_is)
    (case k3 => k_is)
    (case a4 => k_is)
    (case l4 => k_is)
    (case c4 => k_is)
    (case k4 => k_is)
    (case a5 => k_is)
    (case l5 => k_is)
    (case c5 => k_is)
    (case k5 => k_is)
    (case a6 => k_is)
    (case l6 => k_is)
    (case c6 => k_is)
    (case k6 => k_is)
    (case a7 => k_is)
    (case l7 => k_is)
    (case c7 => k_is)
    (case k7 => k_is)
    (case a8 => k_is)
    (case l8 => k_is)
    (case c8 => k_is)
    (case k8 => k_is)
    (case a9 => k_is)
    (case l9 => k_is)
    (case c9 => k_is)
    (case k9 => k_is)
    (case a10 => k_is)
    (case l10 => k_is)
    (case c10 => k_is)
    (case k10 => k_is)
    (case a11 => k_is)
    (case l11 => k_is)
    (case c11 => k_is)
    (case k11 => k_is)
    (case a12 => k_is)
    (case l12 => k_is)
    (case c12 => k_is)
    (case k12 => k_is)
    (case a13 => k_is)
    (case l13 => k_is)
    (case c13 => k_is)
    (case k13 => k_is)
    (case a14 => k_is)
    (case l14 => k_is)
    (case c14 => k_is)
    (case k14 => k_is)
    (case a15 => k_is)
    (case l15 => k_is)
    (case c15 => k_is)
    (case k15 => k_is)
    (case a16 => k_is)
    (case l16 => k_is)
    (case c16 => k_is)
    (case k16 => k_is)
    (case a17 => k_is)
    (case l17 => k_is)
    (case c17 => k_is)
    (case k17 => k_is)
    (case a18 => k_is)
    (case l18 => k_is)
    (case c18 => k_is)
    (case k18 => k_is)
    (case a19 => k_is)
    (case l19 => k_is)
    (case c19 => k_is)
    (case k19 => k_is)
    (case a20 => k_is)
    (case l20 => k_is)
    (case c20 => k_is)
    (case k20 => k_is)
    (case a21 => k_is)
    (case l21 => k_is)
    (case c21 => k_is)
    (case k21 => k_is)
    (case a22 => k_is)
    (case l22 => k_is)
    (case c22 => k_is)
    (case k22 => k_is)
    (case a23 => k_is)
    (case l23 => k_is)
    (case c23 => k_is)
    (case k23 => k_is)
    (case a24 => k_is)
    (case l24 => k_is)
    (case c24 => k_is)
    (case k24 => k_is)
    (case a25 => k_is)
    (case l25 => k_is)
    (case c25 => k_is)
    (case k25 => k_is)
    (case a26 => k_is)
    (case l26 => k_is)
    (case c26 => k_is)
    (case k26 => k_is)
    (case a27 => k_is)
    (case l27 => k_is)
    (case c27 => k_is)
    (case k27 => k_is)
    (case a28 => k_is)
    (case l28 => k_is)
    (case c28 => k_is)
    (case k28 => k_is)
    (case a29 => k_is)
    (case l29 => k_is)
    (case c29 => k_is)
    (case k29 => k_is)
    (case a30 => k_is)
    (case l30 => k_is)
    (case c30 => k_is)
    (case k30 => k_is)
    (case a31 => k_is)
    (case l31 => k_is)
    (case c31 => k_is)
    (case k31 => k_is)
    (case a32 => k_is)
    (case l32 => k_is)
    (case c32 => k_is)
    (case k32 => k_is)
    (case a33 => k_is)
    (case l33 => k_is)
    (case c33 => k_is)
    (case k33 => k_is)
    (case gg => k_is)
    (case z1 => k_is)
    (case z2 => k_is)
    (case z3 => k_is)
    (case z4 => k_is)
    (case z5 => k_is)
    (case z6 => k_is)
    (case z7 => k_is)
    (case z8 => k_is)
    (case z9 => k_is)
    (case z10 => k_is)
    (case z11 => k_is)
    (case z12 => k_is)
    (case z13 => k_is)
    (case z14 => k_is)
    (case z15 => k_is)
    (case z16 => k_is)
#print axioms PySem.Challenge.cw_mediantrows_k42_whole_places_by_sums_and_holds
end
