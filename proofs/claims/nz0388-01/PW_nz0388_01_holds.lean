import PyProof.Rows.All
import Wide.All
import OpenK.AllK
import Wide.FinOn
import Lean
import PySem.Challenge.RW_nz0388_01
set_option Elab.async false
set_option maxHeartbeats 8000000
set_option linter.unusedVariables false
section
/-! PyLite: a small abstract calculus (values, heap, syntax, weakest preconditions) -/


namespace Mine

/-- abstract values: numbers, texts, tuples; frozen lists (fl) and key sets (fd); refs to mutable objects -/
inductive AV where
  | none
  | bool (b : Bool)
  | int (i : Int)
  | str (s : String)
  | tup (xs : List AV)
  | fl (xs : List AV)
  | fd (ks : List Int)
  | rng (lo hi : Int)
  | inst (C : String) (at_ : List (String × AV))
  | ref (a : Nat)

inductive AObj where
  | list (xs : List AV)
  | dI (kvs : List (Int × AV))
  | dS (kvs : List (String × AV))
  | dT (kvs : List (List Int × AV))
  | inst (C : String) (d : Nat)
  | attrs (at_ : List (String × AV))

noncomputable def clsNames : List String := ["Circuit", "Counter"]
noncomputable def attrNames : List String := ["kinds", "parts_now", "known", "circuit", "inputs", "plans", "supports"]

noncomputable def methNames : List (String × String) := [("Counter", "below"), ("Counter", "support"), ("Counter", "gathered"), ("Counter", "turned"), ("Counter", "settled"), ("Counter", "groups"), ("Counter", "pick"), ("Counter", "plan"),
  ("Counter", "is_ready"), ("Counter", "own"), ("Counter", "combined"), ("Counter", "count"), ("Circuit", "kind"), ("Circuit", "parts"), ("Circuit", "new_gate"), ("Circuit", "new_input"), ("Circuit", "all_of"),
  ("Circuit", "both"), ("Circuit", "either"), ("Circuit", "implies"), ("Circuit", "iff"), ("Circuit", "unlike"), ("Circuit", "choose")]

abbrev HP := Nat → Option AObj
abbrev Loc := String → Option AV

noncomputable def HP.set (h : HP) (a : Nat) (o : AObj) : HP := fun b => if b = a then some o else h b
noncomputable def HP.del (h : HP) (a : Nat) : HP := fun b => if b = a then Option.none else h b
noncomputable def HP.Sub (h h' : HP) : Prop := ∀ a o, h a = some o → h' a = some o
noncomputable def Loc.set (l : Loc) (x : String) (v : AV) : Loc := fun y => if y = x then some v else l y
noncomputable def setAll (l : Loc) : List String → List AV → Loc
  | x :: xs, v :: vs => setAll (l.set x v) xs vs
  | _, _ => l

noncomputable def aGet {K V : Type} [DecidableEq K] (kvs : List (K × V)) (k : K) : Option V := (kvs.find? fun kv => kv.1 = k).map (·.2)
noncomputable def aPut {K V : Type} [DecidableEq K] (kvs : List (K × V)) (k : K) (v : V) : List (K × V) :=
  if kvs.any (fun kv => kv.1 = k) then kvs.map (fun kv => if kv.1 = k then (kv.1, v) else kv) else kvs ++ [(k, v)]
noncomputable def aMerge {K V : Type} [DecidableEq K] (kvs more : List (K × V)) : List (K × V) := more.foldl (fun acc kv => aPut acc kv.1 kv.2) kvs

noncomputable def intsOf : List AV → Option (List Int)
  | [] => some []
  | .int i :: r => (intsOf r).map (i :: ·)
  | _ => Option.none
noncomputable def boolsOf : List AV → Option (List Bool)
  | [] => some []
  | .bool i :: r => (boolsOf r).map (i :: ·)
  | _ => Option.none

noncomputable def SZ : Nat := 16000000
noncomputable def small (i : Int) : Prop := -1152921504606846976 < i ∧ i < 1152921504606846976

noncomputable def asList : AV → HP → Option (List AV)
  | .fl xs, _ => some xs
  | .ref a, hp => match hp a with | some (.list xs) => some xs | _ => Option.none
  | _, _ => Option.none
noncomputable def asSeq : AV → HP → Option (List AV)
  | .fl xs, _ => some xs
  | .tup xs, _ => some xs
  | .ref a, hp => match hp a with | some (.list xs) => some xs | _ => Option.none
  | _, _ => Option.none
noncomputable def lenOf : AV → HP → Option Nat
  | .fl xs, _ => some xs.length
  | .tup xs, _ => some xs.length
  | .fd ks, _ => some ks.length
  | .ref a, hp => match hp a with | some (.list xs) => some xs.length | some (.dI kvs) => some kvs.length | _ => Option.none
  | _, _ => Option.none
noncomputable def hasKey : AV → AV → HP → Option Bool
  | .int i, .fd ks, _ => some (decide (i ∈ ks))
  | .int i, .ref a, hp => match hp a with | some (.dI kvs) => some (decide (i ∈ kvs.map (·.1))) | _ => Option.none
  | .tup xs, .ref a, hp => match hp a, intsOf xs with | some (.dT kvs), some ks => some (decide (ks ∈ kvs.map (·.1))) | _, _ => Option.none
  | _, _, _ => Option.none
noncomputable def seqGet (xs : List AV) (i : Int) : Option AV :=
  if 0 ≤ i then xs[i.toNat]? else if -(xs.length : Int) ≤ i then xs[(i + xs.length).toNat]? else Option.none
noncomputable def idxGet : AV → AV → HP → Option AV
  | .fl xs, .int i, _ => seqGet xs i
  | .tup xs, .int i, _ => seqGet xs i
  | .ref a, .int i, hp => match hp a with | some (.list xs) => seqGet xs i | some (.dI kvs) => aGet kvs i | _ => Option.none
  | .ref a, .str k, hp => match hp a with | some (.dS kvs) => aGet kvs k | _ => Option.none
  | .ref a, .tup xs, hp => match hp a, intsOf xs with | some (.dT kvs), some ks => aGet kvs ks | _, _ => Option.none
  | _, _, _ => Option.none
noncomputable def attrGet : AV → String → HP → Option AV
  | .inst _ at_, n, _ => aGet at_ n
  | .ref a, n, hp => match hp a with
      | some (.inst _ d) => match hp d with | some (.attrs at_) => aGet at_ n | _ => Option.none
      | _ => Option.none
  | _, _, _ => Option.none
/-- integer keys of something sorted() is asked for -/
noncomputable def keysOf : AV → HP → Option (List Int)
  | .ref a, hp => match hp a with | some (.dI kvs) => some (kvs.map (·.1)) | _ => Option.none
  | _, _ => Option.none
noncomputable def rangeL (lo hi : Int) : List AV := (List.range (hi - lo).toNat).map fun (k : Nat) => AV.int (lo + k)
noncomputable def itemsOf : AV → Option (List AV)
  | .fl xs => some xs
  | .tup xs => some xs
  | .fd ks => some (ks.map .int)
  | .rng lo hi => some (rangeL lo hi)
  | _ => Option.none

inductive Op2 where | add | sub | mul | fdiv | mod | pow | shl
  deriving DecidableEq
inductive Cmp where | eq | ne | lt | gt | le | in_ | nin
  deriving DecidableEq
inductive Bi where | abs | len | sorted | sum | tuple | dict | range
  deriving DecidableEq
inductive LM where | append | extend | pop | count | get | update
  deriving DecidableEq
inductive Tgt where | nm (x : String) | tp (xs : List String)
  deriving DecidableEq

mutual
inductive E where
  | int (i : Int) | str (s : String) | bool (b : Bool)
  | var (x : String)
  | bin (op : Op2) (l r : E)
  | neg (e : E) | not_ (e : E)
  | and_ (l r : E) | or_ (l r : E)
  | cmp (op : Cmp) (l r : E)
  | ite (c t e : E)
  | attr (e : E) (a : String)
  | idx (e i : E)
  | upto (e hi : E)
  | rev (e : E)
  | tup (es : Es) | list (es : Es) | flist (es : Es)
  | dict0 (tk : Bool)
  | dict1 (k v : E)
  | dictS (ks : List String) (vs : Es)
  | comp (elt : E) (t : Tgt) (it : E)
  | compIf (elt : E) (t : Tgt) (it : E) (c : E)
  | bi (b : Bi) (args : Es)
  | new (C : String) (args : Es)
  | call (f : String) (args : Es)
  | meth (o : E) (m : String) (args : Es)
  | lm (o : E) (m : LM) (args : Es)
inductive Es where | nil | cons (e : E) (es : Es)
end
mutual
inductive S where
  | assign (x : String) (e : E)
  | assigns (xs : List String) (e : E)
  | setAttr (o : E) (a : String) (e : E)
  | setIdx (o k : E) (e : E)
  | expr (e : E)
  | iff (c : E) (t e : Ss)
  | while_ (c : E) (b : Ss)
  | for_ (t : Tgt) (it : E) (b : Ss)
  | ret (e : E)
  | cont
  | freeze (x : String)
inductive Ss where | nil | cons (s : S) (ss : Ss)
end

inductive Fl where | next | cont | ret (v : AV)

abbrev CallSem := String → List AV → HP → (AV → HP → Prop) → Prop

noncomputable def onI (x : AV) (f : Int → Prop) : Prop := match x with | .int i => f i | _ => False
noncomputable def onS (x : AV) (f : String → Prop) : Prop := match x with | .str i => f i | _ => False
noncomputable def onB (x : AV) (f : Bool → Prop) : Prop := match x with | .bool i => f i | _ => False
noncomputable def onR (x : AV) (f : Nat → Prop) : Prop := match x with | .ref i => f i | _ => False
noncomputable def onL (x : AV) (f : List AV → Prop) : Prop := match x with | .fl i => f i | _ => False
noncomputable def onD (x : AV) (f : List Int → Prop) : Prop := match x with | .fd i => f i | _ => False
noncomputable def on0 (xs : List AV) (p : Prop) : Prop := match xs with | [] => p | _ => False
noncomputable def on1 (xs : List AV) (f : AV → Prop) : Prop := match xs with | [x] => f x | _ => False
noncomputable def on2 (xs : List AV) (f : AV → AV → Prop) : Prop := match xs with | [x, y] => f x y | _ => False
noncomputable def catK (x y : AV) (hp : HP) (K : AV → HP → Prop) : Prop := ∃ xs ys, asList x hp = some xs ∧ asList y hp = some ys ∧ xs.length + ys.length ≤ SZ ∧ K (.fl (xs ++ ys)) hp
noncomputable def neK (x y : AV) (hp : HP) (K : AV → HP → Prop) : Prop := ∃ xs ys is js, asList x hp = some xs ∧ asList y hp = some ys ∧ intsOf xs = some is ∧ intsOf ys = some js ∧ is.length = js.length ∧ K (.bool (decide (is ≠ js))) hp

noncomputable def wpBin (op : Op2) (x y : AV) (hp : HP) (K : AV → HP → Prop) : Prop :=
  match op with
  | .add => (match x with | .int i => onI y fun j => K (.int (i + j)) hp | x => catK x y hp K)
  | .sub => onI x fun i => onI y fun j => K (.int (i - j)) hp
  | .mul => onI x fun i => onI y fun j => small i ∧ small j ∧ K (.int (i * j)) hp
  | .fdiv => onI x fun i => onI y fun j => 0 < j ∧ j ≤ 1000000 ∧ K (.int (i / j)) hp
  | .mod => onI x fun i => onI y fun j => 0 < j ∧ K (.int (i % j)) hp
  | .pow => onI x fun i => onI y fun j => small i ∧ 0 ≤ j ∧ j ≤ 1000 ∧ K (.int (i ^ j.toNat)) hp
  | .shl => onI x fun i => onI y fun j => small i ∧ 0 ≤ j ∧ j ≤ 1000 ∧ K (.int (i * 2 ^ j.toNat)) hp

noncomputable def wpCmp (op : Cmp) (x y : AV) (hp : HP) (K : AV → HP → Prop) : Prop :=
  match op with
  | .eq => (match x with | .int i => onI y fun j => K (.bool (decide (i = j))) hp | .str i => onS y fun j => K (.bool (decide (i = j))) hp | .bool i => onB y fun j => K (.bool (decide (i = j))) hp | _ => False)
  | .ne => (match x with | .int i => onI y fun j => K (.bool (decide (i ≠ j))) hp | .str i => onS y fun j => K (.bool (decide (i ≠ j))) hp | x => neK x y hp K)
  | .lt => onI x fun i => onI y fun j => K (.bool (decide (i < j))) hp
  | .gt => onI x fun i => onI y fun j => K (.bool (decide (i > j))) hp
  | .le => onI x fun i => onI y fun j => K (.bool (decide (i ≤ j))) hp
  | .in_ => ∃ b, hasKey x y hp = some b ∧ K (.bool b) hp
  | .nin => ∃ b, hasKey x y hp = some b ∧ K (.bool (!b)) hp

noncomputable def wpBi (b : Bi) (args : List AV) (hp : HP) (K : AV → HP → Prop) : Prop :=
  match b with
  | .abs => on1 args fun x => onI x fun i => K (.int i.natAbs) hp
  | .len => on1 args fun x => ∃ n, lenOf x hp = some n ∧ n ≤ SZ ∧ K (.int n) hp
  | .sorted => on1 args fun x => ∃ is, keysOf x hp = some is ∧ is.length < 64 ∧ ∀ out : List Int, out.Perm is → out.Pairwise (· ≤ ·) → K (.fl (out.map .int)) hp
  | .sum => on1 args fun x => ∃ xs is, asList x hp = some xs ∧ intsOf xs = some is ∧ K (.int is.sum) hp
  | .tuple => on1 args fun x => ∃ xs, asList x hp = some xs ∧ xs.length ≤ SZ ∧ K (.tup xs) hp
  | .dict => on1 args fun x => onD x fun ks => ks.length ≤ SZ ∧ ∀ a, hp a = Option.none → K (.ref a) (hp.set a (.dI (ks.map fun k => (k, .bool true))))
  | .range => (match args with | [x] => onI x fun hi => small hi ∧ K (.rng 0 hi) hp | xs => on2 xs fun x y => onI x fun lo => onI y fun hi => small lo ∧ small hi ∧ K (.rng lo hi) hp)

noncomputable def wpLm (o : AV) (m : LM) (args : List AV) (hp : HP) (K : AV → HP → Prop) : Prop :=
  match m with
  | .append => onR o fun a => on1 args fun v => ∃ xs, hp a = some (.list xs) ∧ xs.length ≤ SZ ∧ K .none (hp.set a (.list (xs ++ [v])))
  | .extend => onR o fun a => on1 args fun v => onL v fun ys => ∃ xs, hp a = some (.list xs) ∧ xs.length + ys.length ≤ SZ ∧ K .none (hp.set a (.list (xs ++ ys)))
  | .pop => onR o fun a => on0 args (∃ xs v, hp a = some (.list (xs ++ [v])) ∧ xs.length ≤ SZ ∧ K v (hp.set a (.list xs)))
  | .count => onL o fun xs => on1 args fun v => onB v fun b => ∃ bs, boolsOf xs = some bs ∧ bs.length ≤ SZ ∧ K (.int (bs.count b)) hp
  | .get => onR o fun a => on2 args fun v d => onI v fun k => ∃ kvs, hp a = some (.dI kvs) ∧ K ((aGet kvs k).getD d) hp
  | .update => onR o fun a => on1 args fun v => onD v fun ks => ∃ kvs, hp a = some (.dI kvs) ∧ kvs.length + ks.length ≤ SZ ∧ K .none (hp.set a (.dI (aMerge kvs (ks.map fun k => (k, .bool true)))))

/-- the receiver of a built-in method, as it stands before the arguments -/
noncomputable def lmTy (o : AV) (m : LM) (hp : HP) : Prop :=
  match m with
  | .count => onL o fun _ => True
  | .append => onR o fun a => ∃ xs, hp a = some (.list xs)
  | .extend => onR o fun a => ∃ xs, hp a = some (.list xs)
  | .pop => onR o fun a => ∃ xs, hp a = some (.list xs)
  | .get => onR o fun a => ∃ kvs, hp a = some (.dI kvs)
  | .update => onR o fun a => ∃ kvs, hp a = some (.dI kvs)

noncomputable def bindT (t : Tgt) (v : AV) (loc : Loc) : Option Loc :=
  match t, v with
  | .nm x, v => some (loc.set x v)
  | .tp xs, .tup vs => if xs.length = vs.length then some (setAll loc xs vs) else Option.none
  | _, _ => Option.none

noncomputable def wpComp (t : Tgt) (loc : Loc) (cond : Loc → HP → (Bool → HP → Prop) → Prop) (elt : Loc → HP → (AV → HP → Prop) → Prop) :
    List AV → List AV → HP → (AV → HP → Prop) → Prop
  | [], acc, hp, K => K (.fl acc) hp
  | x :: xs, acc, hp, K => ∃ loc', bindT t x loc = some loc' ∧
      cond loc' hp fun b hp1 => if b then elt loc' hp1 fun v hp2 => wpComp t loc cond elt xs (acc ++ [v]) hp2 K else wpComp t loc cond elt xs acc hp1 K

/-- truth of a condition's value -/
noncomputable def tv (K : Bool → HP → Prop) (v : AV) (hp : HP) : Prop := match v with | .bool b => K b hp | _ => False

mutual
noncomputable def wpE (C : CallSem) : E → Loc → HP → (AV → HP → Prop) → Prop
  | .int i, _, hp, K => K (.int i) hp
  | .str s, _, hp, K => K (.str s) hp
  | .bool b, _, hp, K => K (.bool b) hp
  | .var x, loc, hp, K => ∃ v, loc x = some v ∧ K v hp
  | .bin op l r, loc, hp, K => wpE C l loc hp fun a hp1 => wpE C r loc hp1 fun b hp2 => wpBin op a b hp2 K
  | .neg e, loc, hp, K => wpE C e loc hp fun v hp1 => match v with | .int i => K (.int (-i)) hp1 | _ => False
  | .not_ e, loc, hp, K => wpE C e loc hp (tv fun b hp1 => K (.bool (!b)) hp1)
  | .and_ l r, loc, hp, K => wpE C l loc hp (tv fun b hp1 => if b then wpE C r loc hp1 (tv fun b2 hp2 => K (.bool b2) hp2) else K (.bool false) hp1)
  | .or_ l r, loc, hp, K => wpE C l loc hp (tv fun b hp1 => if b then K (.bool true) hp1 else wpE C r loc hp1 (tv fun b2 hp2 => K (.bool b2) hp2))
  | .cmp op l r, loc, hp, K => wpE C l loc hp fun a hp1 => wpE C r loc hp1 fun b hp2 => wpCmp op a b hp2 K
  | .ite c t e, loc, hp, K => wpE C c loc hp (tv fun b hp1 => if b then wpE C t loc hp1 K else wpE C e loc hp1 K)
  | .attr e n, loc, hp, K => wpE C e loc hp fun o hp1 => ∃ v, attrGet o n hp1 = some v ∧ K v hp1
  | .idx e i, loc, hp, K => wpE C e loc hp fun o hp1 => wpE C i loc hp1 fun j hp2 => ∃ v, idxGet o j hp2 = some v ∧ (∀ k, j = .int k → small k) ∧ K v hp2
  | .upto e hi, loc, hp, K => wpE C e loc hp fun o hp1 => wpE C hi loc hp1 fun j hp2 => ∃ xs n, asList o hp2 = some xs ∧ j = .int n ∧ 0 ≤ n ∧ small n ∧ xs.length ≤ SZ ∧ K (.fl (xs.take n.toNat)) hp2
  | .rev e, loc, hp, K => wpE C e loc hp fun o hp1 => ∃ xs, asList o hp1 = some xs ∧ xs.length ≤ SZ ∧ K (.fl xs.reverse) hp1
  | .tup es, loc, hp, K => wpEs C es loc hp fun vs hp1 => vs.length ≤ 100 ∧ K (.tup vs) hp1
  | .list es, loc, hp, K => wpEs C es loc hp fun vs hp1 => vs.length ≤ 100 ∧ ∀ a, hp1 a = Option.none → K (.ref a) (hp1.set a (.list vs))
  | .flist es, loc, hp, K => wpEs C es loc hp fun vs hp1 => vs.length ≤ 100 ∧ K (.fl vs) hp1
  | .dict0 tk, _, hp, K => ∀ a, hp a = Option.none → K (.ref a) (hp.set a (if tk then .dT [] else .dI []))
  | .dict1 k v, loc, hp, K => wpE C k loc hp fun kv hp1 => wpE C v loc hp1 fun vv hp2 => match kv with
      | .int i => ∀ a, hp2 a = Option.none → K (.ref a) (hp2.set a (.dI [(i, vv)]))
      | _ => False
  | .dictS ks vs, loc, hp, K => wpEs C vs loc hp fun ws hp1 => ws.length = ks.length ∧ ks.Nodup ∧ ks.length ≤ 10 ∧ ∀ a, hp1 a = Option.none → K (.ref a) (hp1.set a (.dS (ks.zip ws)))
  | .comp elt t it, loc, hp, K => wpE C it loc hp fun x hp1 => ∃ xs, itemsOf x = some xs ∧ xs.length ≤ SZ ∧
      wpComp t loc (fun _ hp2 K2 => K2 true hp2) (fun l2 hp2 K2 => wpE C elt l2 hp2 K2) xs [] hp1 K
  | .compIf elt t it c, loc, hp, K => wpE C it loc hp fun x hp1 => ∃ xs, itemsOf x = some xs ∧ xs.length ≤ SZ ∧
      wpComp t loc (fun l2 hp2 K2 => wpE C c l2 hp2 (tv K2)) (fun l2 hp2 K2 => wpE C elt l2 hp2 K2) xs [] hp1 K
  | .bi b args, loc, hp, K => wpEs C args loc hp fun vs hp1 => wpBi b vs hp1 K
  | .new Cn args, loc, hp, K => wpEs C args loc hp fun vs hp1 => ∀ a d, hp1 a = Option.none → hp1 d = Option.none → a ≠ d →
      C (Cn ++ ".__init__") (.ref a :: vs) ((hp1.set d (.attrs [])).set a (.inst Cn d)) fun v hp2 => v = .none ∧ K (.ref a) hp2
  | .call f args, loc, hp, K => wpEs C args loc hp fun vs hp1 => C f vs hp1 K
  | .meth o m args, loc, hp, K => wpE C o loc hp fun ov hp1 => ∃ Cn at_, ov = .inst Cn at_ ∧ aGet at_ m = Option.none ∧ (Cn, m) ∈ methNames ∧ wpEs C args loc hp1 fun vs hp2 => C (Cn ++ "." ++ m) (ov :: vs) hp2 K
  | .lm o m args, loc, hp, K => wpE C o loc hp fun ov hp1 => lmTy ov m hp1 ∧ wpEs C args loc hp1 fun vs hp2 => wpLm ov m vs hp2 K
noncomputable def wpEs (C : CallSem) : Es → Loc → HP → (List AV → HP → Prop) → Prop
  | .nil, _, hp, K => K [] hp
  | .cons e es, loc, hp, K => wpE C e loc hp fun v hp1 => wpEs C es loc hp1 fun vs hp2 => K (v :: vs) hp2
end

noncomputable def wpFor (t : Tgt) (body : Loc → HP → (Fl → Loc → HP → Prop) → Prop) : List AV → Loc → HP → (Fl → Loc → HP → Prop) → Prop
  | [], loc, hp, K => K .next loc hp
  | x :: xs, loc, hp, K => ∃ loc', bindT t x loc = some loc' ∧ body loc' hp fun f loc2 hp2 => match f with
      | .ret v => K (.ret v) loc2 hp2
      | _ => ∃ hp3, HP.Sub hp3 hp2 ∧ wpFor t body xs loc2 hp3 K

noncomputable def wpWhile (test : Loc → HP → (Bool → HP → Prop) → Prop) (body : Loc → HP → (Fl → Loc → HP → Prop) → Prop) (loc : Loc) (hp : HP) (K : Fl → Loc → HP → Prop) : Prop :=
  ∀ P : Loc → HP → Prop,
    (∀ l h, (test l h fun b h1 => if b then body l h1 fun f l2 h2 => match f with
        | .ret v => K (.ret v) l2 h2
        | _ => ∃ h3, HP.Sub h3 h2 ∧ P l2 h3 else K .next l h1) → P l h) → P loc hp

/-- freezing the object at a: what the value becomes -/
noncomputable def frozen : AObj → Option AV
  | .list xs => some (.fl xs)
  | .dI kvs => if kvs.all (fun kv => match kv.2 with | .bool true => true | _ => false) then some (.fd (kvs.map (·.1))) else Option.none
  | _ => Option.none

mutual
noncomputable def wpS (C : CallSem) : S → Loc → HP → (Fl → Loc → HP → Prop) → Prop
  | .assign x e, loc, hp, K => wpE C e loc hp fun v hp1 => K .next (loc.set x v) hp1
  | .assigns xs e, loc, hp, K => wpE C e loc hp fun v hp1 => ∃ vs, v = .tup vs ∧ xs.length = vs.length ∧ xs.Nodup ∧ K .next (setAll loc xs vs) hp1
  | .setAttr o n e, loc, hp, K => wpE C e loc hp fun v hp1 => wpE C o loc hp1 fun ov hp2 => ∃ a Cn d at_, ov = .ref a ∧ hp2 a = some (.inst Cn d) ∧ hp2 d = some (.attrs at_) ∧ at_.length ≤ 100 ∧ K .next loc (hp2.set d (.attrs (aPut at_ n v)))
  | .setIdx o k e, loc, hp, K => wpE C e loc hp fun v hp1 => wpE C o loc hp1 fun ov hp2 => wpE C k loc hp2 fun kv hp3 =>
      match ov, kv with
      | .ref a, .int i => ∃ kvs, hp3 a = some (.dI kvs) ∧ kvs.length ≤ SZ ∧ K .next loc (hp3.set a (.dI (aPut kvs i v)))
      | .ref a, .str i => ∃ kvs, hp3 a = some (.dS kvs) ∧ kvs.length ≤ SZ ∧ K .next loc (hp3.set a (.dS (aPut kvs i v)))
      | .ref a, .tup xs => ∃ kvs is, hp3 a = some (.dT kvs) ∧ intsOf xs = some is ∧ kvs.length ≤ SZ ∧ K .next loc (hp3.set a (.dT (aPut kvs is v)))
      | _, _ => False
  | .expr e, loc, hp, K => wpE C e loc hp fun v hp1 => (v = .none ∨ ∃ i, v = .int i) ∧ K .next loc hp1
  | .iff c t e, loc, hp, K => wpE C c loc hp (tv fun b hp1 => if b then wpB C t loc hp1 K else wpB C e loc hp1 K)
  | .while_ c b, loc, hp, K => wpWhile (fun l h K2 => wpE C c l h (tv K2)) (fun l h K2 => wpB C b l h K2) loc hp K
  | .for_ t it b, loc, hp, K => wpE C it loc hp fun x hp1 => ∃ xs, itemsOf x = some xs ∧ wpFor t (fun l h K2 => wpB C b l h K2) xs loc hp1 K
  | .ret e, loc, hp, K => wpE C e loc hp fun v hp1 => K (.ret v) loc hp1
  | .cont, loc, hp, K => K .cont loc hp
  | .freeze x, loc, hp, K => ∃ u, loc x = some u ∧ match u with
      | .ref a => (∃ o v, hp a = some o ∧ frozen o = some v ∧ K .next (loc.set x v) (hp.del a)) ∨
          (∃ Cn d at_, hp a = some (.inst Cn d) ∧ hp d = some (.attrs at_) ∧ K .next (loc.set x (.inst Cn at_)) ((hp.del a).del d))
      | _ => K .next loc hp
noncomputable def wpB (C : CallSem) : Ss → Loc → HP → (Fl → Loc → HP → Prop) → Prop
  | .nil, loc, hp, K => K .next loc hp
  | .cons s ss, loc, hp, K => wpS C s loc hp fun f loc1 hp1 => match f with
      | .next => wpB C ss loc1 hp1 K
      | f => K f loc1 hp1
end

noncomputable def retOf : Fl → AV
  | .ret v => v
  | _ => .none

abbrev Prog := String → Option (List String × Ss)

noncomputable def Call (P : Prog) : Nat → CallSem
  | 0, _, _, _, _ => False
  | n + 1, f, args, hp, K => ∃ ps body, P f = some (ps, body) ∧ ps.length = args.length ∧
      wpB (Call P n) body (setAll (fun _ => Option.none) ps args) hp fun fl _ hp1 => ∃ hp2, HP.Sub hp2 hp1 ∧ K (retOf fl) hp2

end Mine
end
section
/-! the compact syntax of the law's text; printed by mkast.py -/
namespace Mine
noncomputable def b_Counter_init : Ss :=
  (.cons (.setAttr (.var "self") "circuit" (.var "circuit")) (.cons (.setAttr (.var "self") "inputs" (.bi .tuple (.cons (.var "inputs") .nil))) (.cons (.setAttr (.var "self") "known" (.dict0 false)) (.cons (.setAttr (.var "self") "plans" (.dict0 false)) (.cons (.setAttr (.var "self") "supports" (.dict0 false)) .nil)))))
noncomputable def b_Counter_below : Ss :=
  (.cons (.assigns ["found", "stack"] (.tup (.cons (.dict0 false) (.cons (.list (.cons (.bi .abs (.cons (.var "gate") .nil)) .nil)) .nil)))) (.cons (.while_ (.cmp .gt (.bi .len (.cons (.var "stack") .nil)) (.int 0)) (.cons (.assign "here" (.lm (.var "stack") .pop .nil)) (.cons (.iff (.cmp .nin (.var "here") (.var "found")) (.cons (.setIdx (.var "found") (.var "here") (.bool true)) (.cons (.iff (.cmp .eq (.meth (.attr (.var "self") "circuit") "kind" (.cons (.var "here") .nil)) (.str "and")) (.cons (.expr (.lm (.var "stack") .extend (.cons (.comp (.bi .abs (.cons (.var "part") .nil)) (.nm "part") (.meth (.attr (.var "self") "circuit") "parts" (.cons (.var "here") .nil))) .nil))) .nil) .nil) .nil)) .nil) .nil))) (.cons (.ret (.bi .sorted (.cons (.var "found") .nil))) .nil)))
noncomputable def b_Counter_support : Ss :=
  (.cons (.iff (.cmp .nin (.bi .abs (.cons (.var "gate") .nil)) (.attr (.var "self") "supports")) (.cons (.for_ (.nm "here") (.meth (.var "self") "below" (.cons (.var "gate") .nil)) (.cons (.iff (.cmp .nin (.var "here") (.attr (.var "self") "supports")) (.cons (.setIdx (.attr (.var "self") "supports") (.var "here") (.meth (.var "self") "gathered" (.cons (.var "here") .nil))) .nil) .nil) .nil)) .nil) .nil) (.cons (.ret (.idx (.attr (.var "self") "supports") (.bi .abs (.cons (.var "gate") .nil)))) .nil))
noncomputable def b_Counter_gathered : Ss :=
  (.cons (.assigns ["kind", "found"] (.tup (.cons (.meth (.attr (.var "self") "circuit") "kind" (.cons (.var "here") .nil)) (.cons (.dict0 false) .nil)))) (.cons (.iff (.cmp .eq (.var "kind") (.str "input")) (.cons (.setIdx (.var "found") (.var "here") (.bool true)) .nil) (.cons (.iff (.cmp .eq (.var "kind") (.str "and")) (.cons (.for_ (.nm "part") (.meth (.attr (.var "self") "circuit") "parts" (.cons (.var "here") .nil)) (.cons (.expr (.lm (.var "found") .update (.cons (.idx (.attr (.var "self") "supports") (.bi .abs (.cons (.var "part") .nil))) .nil))) .nil)) .nil) .nil) .nil)) (.cons (.freeze "found") (.cons (.ret (.var "found")) .nil))))
noncomputable def b_Counter_turned : Ss :=
  (.cons (.assign "found" (.lm (.var "table") .get (.cons (.bi .abs (.cons (.var "gate") .nil)) (.cons (.bi .abs (.cons (.var "gate") .nil)) .nil)))) (.cons (.ret (.ite (.cmp .gt (.var "gate") (.int 0)) (.var "found") (.neg (.var "found")))) .nil))
noncomputable def b_Counter_settled : Ss :=
  (.cons (.assign "table" (.dict1 (.var "x") (.var "value"))) (.cons (.for_ (.nm "here") (.meth (.var "self") "below" (.cons (.var "gate") .nil)) (.cons (.iff (.and_ (.cmp .ne (.var "here") (.var "x")) (.cmp .in_ (.var "x") (.meth (.var "self") "support" (.cons (.var "here") .nil)))) (.cons (.setIdx (.var "table") (.var "here") (.meth (.attr (.var "self") "circuit") "all_of" (.cons (.comp (.meth (.var "self") "turned" (.cons (.var "part") (.cons (.var "table") .nil))) (.nm "part") (.meth (.attr (.var "self") "circuit") "parts" (.cons (.var "here") .nil))) .nil))) .nil) .nil) .nil)) (.cons (.ret (.idx (.var "table") (.var "gate"))) .nil)))
noncomputable def b_Counter_groups : Ss :=
  (.cons (.assign "lots" (.flist .nil)) (.cons (.for_ (.nm "part") (.var "parts") (.cons (.assigns ["lot", "inner"] (.tup (.cons (.flist (.cons (.var "part") .nil)) (.cons (.bi .dict (.cons (.meth (.var "self") "support" (.cons (.var "part") .nil)) .nil)) .nil)))) (.cons (.assign "others" (.list .nil)) (.cons (.for_ (.tp ["other", "late"]) (.var "lots") (.cons (.iff (.cmp .gt (.bi .len (.cons (.compIf (.var "x") (.nm "x") (.var "late") (.cmp .in_ (.var "x") (.var "inner"))) .nil)) (.int 0)) (.cons (.assign "lot" (.bin .add (.var "other") (.var "lot"))) (.cons (.expr (.lm (.var "inner") .update (.cons (.var "late") .nil))) .nil)) (.cons (.expr (.lm (.var "others") .append (.cons (.tup (.cons (.var "other") (.cons (.var "late") .nil))) .nil))) .nil)) .nil)) (.cons (.freeze "inner") (.cons (.assign "lots" (.bin .add (.var "others") (.flist (.cons (.tup (.cons (.var "lot") (.cons (.var "inner") .nil))) .nil)))) .nil)))))) (.cons (.ret (.comp (.var "lot") (.tp ["lot", "inner"]) (.var "lots"))) .nil)))
noncomputable def b_Counter_pick : Ss :=
  (.cons (.assign "often" (.dict0 false)) (.cons (.for_ (.nm "part") (.var "parts") (.cons (.for_ (.nm "x") (.meth (.var "self") "support" (.cons (.var "part") .nil)) (.cons (.setIdx (.var "often") (.var "x") (.bin .add (.lm (.var "often") .get (.cons (.var "x") (.cons (.int 0) .nil))) (.int 1))) .nil)) .nil)) (.cons (.assign "best" (.int 0)) (.cons (.for_ (.nm "x") (.bi .sorted (.cons (.var "often") .nil)) (.cons (.iff (.or_ (.cmp .eq (.var "best") (.int 0)) (.cmp .gt (.idx (.var "often") (.var "x")) (.idx (.var "often") (.var "best")))) (.cons (.assign "best" (.var "x")) .nil) .nil) .nil)) (.cons (.ret (.var "best")) .nil)))))
noncomputable def b_Counter_plan : Ss :=
  (.cons (.iff (.cmp .nin (.var "gate") (.attr (.var "self") "plans")) (.cons (.assign "lots" (.meth (.var "self") "groups" (.cons (.meth (.attr (.var "self") "circuit") "parts" (.cons (.var "gate") .nil)) .nil))) (.cons (.iff (.cmp .gt (.bi .len (.cons (.var "lots") .nil)) (.int 1)) (.cons (.setIdx (.attr (.var "self") "plans") (.var "gate") (.tup (.cons (.str "product") (.cons (.comp (.meth (.attr (.var "self") "circuit") "all_of" (.cons (.var "lot") .nil)) (.nm "lot") (.var "lots")) .nil)))) .nil) (.cons (.assign "x" (.meth (.var "self") "pick" (.cons (.idx (.var "lots") (.int 0)) .nil))) (.cons (.setIdx (.attr (.var "self") "plans") (.var "gate") (.tup (.cons (.str "sum") (.cons (.flist (.cons (.meth (.var "self") "settled" (.cons (.var "gate") (.cons (.var "x") (.cons (.neg (.int 1)) .nil)))) (.cons (.meth (.var "self") "settled" (.cons (.var "gate") (.cons (.var "x") (.cons (.int 1) .nil)))) .nil))) .nil)))) .nil))) .nil)) .nil) (.cons (.ret (.idx (.attr (.var "self") "plans") (.var "gate"))) .nil))
noncomputable def b_Counter_is_ready : Ss :=
  (.cons (.ret (.or_ (.cmp .in_ (.bi .abs (.cons (.var "gate") .nil)) (.attr (.var "self") "known")) (.cmp .ne (.meth (.attr (.var "self") "circuit") "kind" (.cons (.bi .abs (.cons (.var "gate") .nil)) .nil)) (.str "and")))) .nil)
noncomputable def b_Counter_own : Ss :=
  (.cons (.iff (.cmp .eq (.meth (.attr (.var "self") "circuit") "kind" (.cons (.bi .abs (.cons (.var "gate") .nil)) .nil)) (.str "true")) (.cons (.ret (.ite (.cmp .gt (.var "gate") (.int 0)) (.int 1) (.int 0))) .nil) .nil) (.cons (.iff (.cmp .eq (.meth (.attr (.var "self") "circuit") "kind" (.cons (.bi .abs (.cons (.var "gate") .nil)) .nil)) (.str "input")) (.cons (.ret (.int 1)) .nil) .nil) (.cons (.assign "found" (.idx (.attr (.var "self") "known") (.bi .abs (.cons (.var "gate") .nil)))) (.cons (.ret (.ite (.cmp .gt (.var "gate") (.int 0)) (.var "found") (.bin .sub (.bin .shl (.int 1) (.bi .len (.cons (.meth (.var "self") "support" (.cons (.var "gate") .nil)) .nil))) (.var "found")))) .nil))))
noncomputable def b_Counter_combined : Ss :=
  (.cons (.assigns ["kind", "some"] (.meth (.var "self") "plan" (.cons (.var "gate") .nil))) (.cons (.iff (.cmp .eq (.var "kind") (.str "product")) (.cons (.assign "found" (.int 1)) (.cons (.for_ (.nm "part") (.var "some") (.cons (.assign "found" (.bin .mul (.var "found") (.meth (.var "self") "own" (.cons (.var "part") .nil)))) .nil)) (.cons (.ret (.var "found")) .nil))) .nil) (.cons (.assign "many" (.bin .sub (.bi .len (.cons (.meth (.var "self") "support" (.cons (.var "gate") .nil)) .nil)) (.int 1))) (.cons (.ret (.bi .sum (.cons (.comp (.bin .shl (.meth (.var "self") "own" (.cons (.var "part") .nil)) (.bin .sub (.var "many") (.bi .len (.cons (.meth (.var "self") "support" (.cons (.var "part") .nil)) .nil)))) (.nm "part") (.var "some")) .nil))) .nil))))
noncomputable def b_Counter_count : Ss :=
  (.cons (.assign "stack" (.list (.cons (.bi .abs (.cons (.var "gate") .nil)) .nil))) (.cons (.while_ (.cmp .gt (.bi .len (.cons (.var "stack") .nil)) (.int 0)) (.cons (.assign "here" (.idx (.var "stack") (.neg (.int 1)))) (.cons (.iff (.meth (.var "self") "is_ready" (.cons (.var "here") .nil)) (.cons (.expr (.lm (.var "stack") .pop .nil)) (.cons .cont .nil)) .nil) (.cons (.assign "lacking" (.compIf (.bi .abs (.cons (.var "part") .nil)) (.nm "part") (.idx (.meth (.var "self") "plan" (.cons (.var "here") .nil)) (.int 1)) (.not_ (.meth (.var "self") "is_ready" (.cons (.var "part") .nil))))) (.cons (.iff (.cmp .gt (.bi .len (.cons (.var "lacking") .nil)) (.int 0)) (.cons (.expr (.lm (.var "stack") .extend (.cons (.var "lacking") .nil))) .nil) (.cons (.setIdx (.attr (.var "self") "known") (.var "here") (.meth (.var "self") "combined" (.cons (.var "here") .nil))) .nil)) .nil))))) (.cons (.ret (.bin .shl (.meth (.var "self") "own" (.cons (.var "gate") .nil)) (.bin .sub (.bi .len (.cons (.attr (.var "self") "inputs") .nil)) (.bi .len (.cons (.meth (.var "self") "support" (.cons (.var "gate") .nil)) .nil))))) .nil)))
noncomputable def b_Circuit_init : Ss :=
  (.cons (.setAttr (.var "self") "kinds" (.list (.cons (.str "") (.cons (.str "true") .nil)))) (.cons (.setAttr (.var "self") "parts_now" (.list (.cons (.tup .nil) (.cons (.tup .nil) .nil)))) (.cons (.setAttr (.var "self") "known" (.dict0 true)) .nil)))
noncomputable def b_Circuit_kind : Ss :=
  (.cons (.ret (.idx (.attr (.var "self") "kinds") (.bi .abs (.cons (.var "g") .nil)))) .nil)
noncomputable def b_Circuit_parts : Ss :=
  (.cons (.ret (.idx (.attr (.var "self") "parts_now") (.bi .abs (.cons (.var "g") .nil)))) .nil)
noncomputable def b_Circuit_new_gate : Ss :=
  (.cons (.expr (.lm (.attr (.var "self") "kinds") .append (.cons (.var "kind") .nil))) (.cons (.expr (.lm (.attr (.var "self") "parts_now") .append (.cons (.var "parts") .nil))) (.cons (.ret (.bin .sub (.bi .len (.cons (.attr (.var "self") "kinds") .nil)) (.int 1))) .nil)))
noncomputable def b_Circuit_new_input : Ss :=
  (.cons (.ret (.meth (.var "self") "new_gate" (.cons (.str "input") (.cons (.tup .nil) .nil)))) .nil)
noncomputable def b_Circuit_all_of : Ss :=
  (.cons (.assign "found" (.dict0 false)) (.cons (.for_ (.nm "g") (.var "gates") (.cons (.iff (.or_ (.cmp .eq (.var "g") (.neg (.int 1))) (.cmp .in_ (.neg (.var "g")) (.var "found"))) (.cons (.ret (.neg (.int 1))) .nil) .nil) (.cons (.iff (.cmp .ne (.var "g") (.int 1)) (.cons (.setIdx (.var "found") (.var "g") (.bool true)) .nil) .nil) .nil))) (.cons (.assign "parts" (.bi .tuple (.cons (.bi .sorted (.cons (.var "found") .nil)) .nil))) (.cons (.iff (.cmp .lt (.bi .len (.cons (.var "parts") .nil)) (.int 2)) (.cons (.ret (.ite (.cmp .eq (.bi .len (.cons (.var "parts") .nil)) (.int 1)) (.idx (.var "parts") (.int 0)) (.int 1))) .nil) .nil) (.cons (.iff (.cmp .nin (.var "parts") (.attr (.var "self") "known")) (.cons (.setIdx (.attr (.var "self") "known") (.var "parts") (.meth (.var "self") "new_gate" (.cons (.str "and") (.cons (.var "parts") .nil)))) .nil) .nil) (.cons (.ret (.idx (.attr (.var "self") "known") (.var "parts"))) .nil))))))
noncomputable def b_Circuit_both : Ss :=
  (.cons (.ret (.meth (.var "self") "all_of" (.cons (.tup (.cons (.var "a") (.cons (.var "b") .nil))) .nil))) .nil)
noncomputable def b_Circuit_either : Ss :=
  (.cons (.ret (.neg (.meth (.var "self") "all_of" (.cons (.tup (.cons (.neg (.var "a")) (.cons (.neg (.var "b")) .nil))) .nil)))) .nil)
noncomputable def b_Circuit_implies : Ss :=
  (.cons (.ret (.neg (.meth (.var "self") "all_of" (.cons (.tup (.cons (.var "a") (.cons (.neg (.var "b")) .nil))) .nil)))) .nil)
noncomputable def b_Circuit_iff : Ss :=
  (.cons (.ret (.meth (.var "self") "all_of" (.cons (.tup (.cons (.meth (.var "self") "implies" (.cons (.var "a") (.cons (.var "b") .nil))) (.cons (.meth (.var "self") "implies" (.cons (.var "b") (.cons (.var "a") .nil))) .nil))) .nil))) .nil)
noncomputable def b_Circuit_unlike : Ss :=
  (.cons (.ret (.neg (.meth (.var "self") "iff" (.cons (.var "a") (.cons (.var "b") .nil))))) .nil)
noncomputable def b_Circuit_choose : Ss :=
  (.cons (.ret (.meth (.var "self") "all_of" (.cons (.tup (.cons (.meth (.var "self") "implies" (.cons (.var "c") (.cons (.var "a") .nil))) (.cons (.meth (.var "self") "implies" (.cons (.neg (.var "c")) (.cons (.var "b") .nil))) .nil))) .nil))) .nil)
noncomputable def b_law_draw : Ss :=
  (.cons (.assign "k" (.idx (.var "feed") (.str "count"))) (.cons (.setIdx (.var "feed") (.str "count") (.bin .add (.var "k") (.int 1))) (.cons (.iff (.cmp .lt (.var "k") (.bi .len (.cons (.idx (.var "feed") (.str "cells")) .nil))) (.cons (.ret (.bin .mod (.bi .abs (.cons (.idx (.idx (.var "feed") (.str "cells")) (.var "k")) .nil)) (.var "many"))) .nil) .nil) (.cons (.ret (.bin .mod (.bin .mod (.bin .add (.bin .add (.bin .add (.bin .mul (.int 7) (.idx (.var "feed") (.str "blend"))) (.bin .mul (.bin .mul (.int 31) (.var "k")) (.var "k"))) (.bin .mul (.int 13) (.var "k"))) (.int 5)) (.int 97)) (.var "many"))) .nil))))
noncomputable def b_law_many : Ss :=
  (.cons (.ret (.lm (.var "table") .count (.cons (.bool true) .nil))) .nil)
noncomputable def b_law_block : Ss :=
  (.cons (.assign "wide" (.bin .add (.int 1) (.call "_law_draw" (.cons (.var "feed") (.cons (.var "most") .nil))))) (.cons (.assign "own" (.comp (.meth (.var "circuit") "new_input" .nil) (.nm "k") (.bi .range (.cons (.var "wide") .nil)))) (.cons (.expr (.lm (.var "seen") .extend (.cons (.var "own") .nil))) (.cons (.assigns ["gate", "table"] (.tup (.cons (.idx (.var "own") (.int 0)) (.cons (.comp (.cmp .eq (.bin .mod (.var "row") (.int 2)) (.int 1)) (.nm "row") (.bi .range (.cons (.bin .pow (.int 2) (.var "wide")) .nil))) .nil)))) (.cons (.for_ (.nm "k") (.bi .range (.cons (.int 1) (.cons (.var "wide") .nil))) (.cons (.assigns ["way", "is_plain"] (.tup (.cons (.call "_law_draw" (.cons (.var "feed") (.cons (.int 4) .nil))) (.cons (.cmp .eq (.call "_law_draw" (.cons (.var "feed") (.cons (.int 2) .nil))) (.int 0)) .nil)))) (.cons (.assigns ["other", "late"] (.tup (.cons (.ite (.var "is_plain") (.idx (.var "own") (.var "k")) (.bin .sub (.int 0) (.idx (.var "own") (.var "k")))) (.cons (.comp (.cmp .eq (.cmp .eq (.bin .mod (.bin .fdiv (.var "row") (.bin .pow (.int 2) (.var "k"))) (.int 2)) (.int 1)) (.var "is_plain")) (.nm "row") (.bi .range (.cons (.bin .pow (.int 2) (.var "wide")) .nil))) .nil)))) (.cons (.assign "gate" (.call "_law_joined" (.cons (.var "circuit") (.cons (.var "gate") (.cons (.var "other") (.cons (.var "way") .nil)))))) (.cons (.assign "table" (.comp (.call "_law_way" (.cons (.var "way") (.cons (.idx (.var "table") (.var "row")) (.cons (.idx (.var "late") (.var "row")) .nil)))) (.nm "row") (.bi .range (.cons (.bin .pow (.int 2) (.var "wide")) .nil)))) .nil))))) (.cons (.ret (.tup (.cons (.var "gate") (.cons (.call "_law_many" (.cons (.var "table") .nil)) (.cons (.var "wide") .nil))))) .nil))))))
noncomputable def b_law_joined : Ss :=
  (.cons (.iff (.cmp .eq (.var "way") (.int 0)) (.cons (.ret (.meth (.var "circuit") "both" (.cons (.var "one") (.cons (.var "other") .nil)))) .nil) .nil) (.cons (.iff (.cmp .eq (.var "way") (.int 1)) (.cons (.ret (.meth (.var "circuit") "either" (.cons (.var "one") (.cons (.var "other") .nil)))) .nil) .nil) (.cons (.ret (.ite (.cmp .eq (.var "way") (.int 2)) (.meth (.var "circuit") "iff" (.cons (.var "one") (.cons (.var "other") .nil))) (.meth (.var "circuit") "unlike" (.cons (.var "one") (.cons (.var "other") .nil))))) .nil)))
noncomputable def b_law_way : Ss :=
  (.cons (.iff (.cmp .lt (.var "way") (.int 2)) (.cons (.ret (.ite (.cmp .eq (.var "way") (.int 0)) (.and_ (.var "one") (.var "other")) (.or_ (.var "one") (.var "other")))) .nil) .nil) (.cons (.ret (.cmp .eq (.cmp .eq (.var "one") (.var "other")) (.cmp .eq (.var "way") (.int 2)))) .nil))
noncomputable def b_law_rows : Ss :=
  (.cons (.assigns ["a", "n", "b", "m"] (.tup (.cons (.idx (.var "one") (.int 1)) (.cons (.bin .pow (.int 2) (.idx (.var "one") (.int 2))) (.cons (.idx (.var "other") (.int 1)) (.cons (.bin .pow (.int 2) (.idx (.var "other") (.int 2))) .nil)))))) (.cons (.iff (.cmp .eq (.var "way") (.int 0)) (.cons (.ret (.bin .mul (.var "a") (.var "b"))) .nil) .nil) (.cons (.iff (.cmp .eq (.var "way") (.int 1)) (.cons (.ret (.bin .sub (.bin .mul (.var "n") (.var "m")) (.bin .mul (.bin .sub (.var "n") (.var "a")) (.bin .sub (.var "m") (.var "b"))))) .nil) .nil) (.cons (.assign "alike" (.bin .add (.bin .mul (.var "a") (.var "b")) (.bin .mul (.bin .sub (.var "n") (.var "a")) (.bin .sub (.var "m") (.var "b"))))) (.cons (.ret (.ite (.cmp .eq (.var "way") (.int 2)) (.var "alike") (.bin .sub (.bin .mul (.var "n") (.var "m")) (.var "alike")))) .nil)))))
noncomputable def b_law_put : Ss :=
  (.cons (.assign "way" (.call "_law_draw" (.cons (.var "feed") (.cons (.int 5) .nil)))) (.cons (.iff (.cmp .lt (.var "way") (.int 4)) (.cons (.ret (.tup (.cons (.call "_law_joined" (.cons (.var "circuit") (.cons (.idx (.var "one") (.int 0)) (.cons (.idx (.var "other") (.int 0)) (.cons (.var "way") .nil))))) (.cons (.call "_law_rows" (.cons (.var "way") (.cons (.var "one") (.cons (.var "other") .nil)))) (.cons (.bin .add (.idx (.var "one") (.int 2)) (.idx (.var "other") (.int 2))) .nil))))) .nil) .nil) (.cons (.assigns ["first", "later"] (.tup (.cons (.call "_law_draw" (.cons (.var "feed") (.cons (.int 4) .nil))) (.cons (.call "_law_draw" (.cons (.var "feed") (.cons (.int 4) .nil))) .nil)))) (.cons (.assign "chosen" (.meth (.var "circuit") "new_input" .nil)) (.cons (.expr (.lm (.var "seen") .append (.cons (.var "chosen") .nil))) (.cons (.assign "gate" (.meth (.var "circuit") "choose" (.cons (.var "chosen") (.cons (.call "_law_joined" (.cons (.var "circuit") (.cons (.idx (.var "one") (.int 0)) (.cons (.idx (.var "other") (.int 0)) (.cons (.var "first") .nil))))) (.cons (.call "_law_joined" (.cons (.var "circuit") (.cons (.idx (.var "one") (.int 0)) (.cons (.idx (.var "other") (.int 0)) (.cons (.var "later") .nil))))) .nil))))) (.cons (.ret (.tup (.cons (.var "gate") (.cons (.bin .add (.call "_law_rows" (.cons (.var "first") (.cons (.var "one") (.cons (.var "other") .nil)))) (.call "_law_rows" (.cons (.var "later") (.cons (.var "one") (.cons (.var "other") .nil))))) (.cons (.bin .add (.bin .add (.idx (.var "one") (.int 2)) (.idx (.var "other") (.int 2))) (.int 1)) .nil))))) .nil)))))))
noncomputable def b_law : Ss :=
  (.cons (.assign "feed" (.dictS ["cells", "count", "blend"] (.cons (.upto (.var "script") (.int 48)) (.cons (.int 0) (.cons (.bi .sum (.cons (.comp (.bin .mod (.bi .abs (.cons (.var "cell") .nil)) (.int 89)) (.nm "cell") (.upto (.var "script") (.int 48))) .nil)) .nil))))) (.cons (.assigns ["circuit", "seen"] (.tup (.cons (.new "Circuit" .nil) (.cons (.list .nil) .nil)))) (.cons (.freeze "circuit") (.cons (.assigns ["blocks", "idle"] (.tup (.cons (.bin .add (.int 2) (.call "_law_draw" (.cons (.var "feed") (.cons (.int 2) .nil)))) (.cons (.call "_law_draw" (.cons (.var "feed") (.cons (.int 3) .nil))) .nil)))) (.cons (.assign "most" (.ite (.cmp .eq (.var "blocks") (.int 2)) (.int 3) (.int 2))) (.cons (.assign "asked" (.list (.cons (.tup (.cons (.int 1) (.cons (.int 1) (.cons (.int 0) .nil)))) (.cons (.call "_law_block" (.cons (.var "feed") (.cons (.var "circuit") (.cons (.var "seen") (.cons (.var "most") .nil))))) .nil)))) (.cons (.assign "whole" (.idx (.var "asked") (.int 1))) (.cons (.for_ (.nm "k") (.bi .range (.cons (.int 1) (.cons (.var "blocks") .nil))) (.cons (.iff (.cmp .le (.var "k") (.var "idle")) (.cons (.expr (.lm (.var "seen") .append (.cons (.meth (.var "circuit") "new_input" .nil) .nil))) .nil) .nil) (.cons (.expr (.lm (.var "asked") .append (.cons (.call "_law_block" (.cons (.var "feed") (.cons (.var "circuit") (.cons (.var "seen") (.cons (.var "most") .nil))))) .nil))) (.cons (.assign "whole" (.call "_law_put" (.cons (.var "feed") (.cons (.var "circuit") (.cons (.var "seen") (.cons (.var "whole") (.cons (.idx (.var "asked") (.neg (.int 1))) .nil))))))) (.cons (.expr (.lm (.var "asked") .append (.cons (.var "whole") .nil))) .nil))))) (.cons (.assign "counter" (.new "Counter" (.cons (.var "circuit") (.cons (.var "seen") .nil)))) (.cons (.freeze "counter") (.cons (.for_ (.nm "lap") (.bi .range (.cons (.int 7) .nil)) (.cons (.assigns ["gate", "rows", "wide"] (.ite (.cmp .eq (.var "lap") (.int 3)) (.idx (.var "asked") (.neg (.int 1))) (.idx (.var "asked") (.call "_law_draw" (.cons (.var "feed") (.cons (.bi .len (.cons (.var "asked") .nil)) .nil)))))) (.cons (.assign "told" (.ite (.cmp .eq (.call "_law_draw" (.cons (.var "feed") (.cons (.int 2) .nil))) (.int 0)) (.flist (.cons (.meth (.var "counter") "count" (.cons (.var "gate") .nil)) (.cons (.meth (.var "counter") "count" (.cons (.bin .sub (.int 0) (.var "gate")) .nil)) .nil))) (.rev (.flist (.cons (.meth (.var "counter") "count" (.cons (.bin .sub (.int 0) (.var "gate")) .nil)) (.cons (.meth (.var "counter") "count" (.cons (.var "gate") .nil)) .nil)))))) (.cons (.iff (.cmp .ne (.var "told") (.flist (.cons (.bin .mul (.var "rows") (.bin .pow (.int 2) (.bin .sub (.bi .len (.cons (.var "seen") .nil)) (.var "wide")))) (.cons (.bin .mul (.bin .sub (.bin .pow (.int 2) (.var "wide")) (.var "rows")) (.bin .pow (.int 2) (.bin .sub (.bi .len (.cons (.var "seen") .nil)) (.var "wide")))) .nil)))) (.cons (.ret (.bool false)) .nil) .nil) .nil)))) (.cons (.ret (.bool true)) .nil))))))))))))
noncomputable def P : Prog := fun f =>
  if f = "Counter.__init__" then some (["self", "circuit", "inputs"], b_Counter_init) else
  if f = "Counter.below" then some (["self", "gate"], b_Counter_below) else
  if f = "Counter.support" then some (["self", "gate"], b_Counter_support) else
  if f = "Counter.gathered" then some (["self", "here"], b_Counter_gathered) else
  if f = "Counter.turned" then some (["self", "gate", "table"], b_Counter_turned) else
  if f = "Counter.settled" then some (["self", "gate", "x", "value"], b_Counter_settled) else
  if f = "Counter.groups" then some (["self", "parts"], b_Counter_groups) else
  if f = "Counter.pick" then some (["self", "parts"], b_Counter_pick) else
  if f = "Counter.plan" then some (["self", "gate"], b_Counter_plan) else
  if f = "Counter.is_ready" then some (["self", "gate"], b_Counter_is_ready) else
  if f = "Counter.own" then some (["self", "gate"], b_Counter_own) else
  if f = "Counter.combined" then some (["self", "gate"], b_Counter_combined) else
  if f = "Counter.count" then some (["self", "gate"], b_Counter_count) else
  if f = "Circuit.__init__" then some (["self"], b_Circuit_init) else
  if f = "Circuit.kind" then some (["self", "g"], b_Circuit_kind) else
  if f = "Circuit.parts" then some (["self", "g"], b_Circuit_parts) else
  if f = "Circuit.new_gate" then some (["self", "kind", "parts"], b_Circuit_new_gate) else
  if f = "Circuit.new_input" then some (["self"], b_Circuit_new_input) else
  if f = "Circuit.all_of" then some (["self", "gates"], b_Circuit_all_of) else
  if f = "Circuit.both" then some (["self", "a", "b"], b_Circuit_both) else
  if f = "Circuit.either" then some (["self", "a", "b"], b_Circuit_either) else
  if f = "Circuit.implies" then some (["self", "a", "b"], b_Circuit_implies) else
  if f = "Circuit.iff" then some (["self", "a", "b"], b_Circuit_iff) else
  if f = "Circuit.unlike" then some (["self", "a", "b"], b_Circuit_unlike) else
  if f = "Circuit.choose" then some (["self", "c", "a", "b"], b_Circuit_choose) else
  if f = "_law_draw" then some (["feed", "many"], b_law_draw) else
  if f = "_law_many" then some (["table"], b_law_many) else
  if f = "_law_block" then some (["feed", "circuit", "seen", "most"], b_law_block) else
  if f = "_law_joined" then some (["circuit", "one", "other", "way"], b_law_joined) else
  if f = "_law_way" then some (["way", "one", "other"], b_law_way) else
  if f = "_law_rows" then some (["way", "one", "other"], b_law_rows) else
  if f = "_law_put" then some (["feed", "circuit", "seen", "one", "other"], b_law_put) else
  if f = "law" then some (["script"], b_law) else
  Option.none
end Mine
end
section
set_option Elab.async false
set_option maxRecDepth 100000
namespace Mine
open PySem PySem.W PySem.Calls PyProof.Rows

abbrev Tab := Nat → Option Obj

section
variable (prog : Program) (w : World) (cl : String → Nat)

mutual
/-- a value stands for an abstract value, over the table G of the objects that never change again -/
inductive RV (G : Tab) : Value → AV → Prop
  | none : RV G .none .none
  | bool (b : Bool) : RV G (.bool b) (.bool b)
  | int (i : Int) (t : Tok) : RV G (.int i t) (.int i)
  | str (s : String) (t : Tok) : RV G (.str (Str.ofString s) t) (.str s)
  | ref (a : Nat) : RV G (.ref a) (.ref a)
  | tup {a : Nat} {items : Array Value} {n : Nat} {xs : List AV} : G a = some { cls := .type "tuple", data := .seq items n } → RVs G items.toList xs → RV G (.ref a) (.tup xs)
  | fl {a : Nat} {items : Array Value} {n : Nat} {xs : List AV} : G a = some { cls := .type "list", data := .seq items n } → RVs G items.toList xs → RV G (.ref a) (.fl xs)
  | fd {a : Nat} {o : Obj} {ks : List Int} : G a = some o → o.IsDictOf (intKind prog w) (ks.map fun k => (k, Value.bool true)) → RV G (.ref a) (.fd ks)
  | rng {a : Nat} {lo hi : Int} {t u v : Tok} : G a = some { cls := .type "range", data := .fields #[.int lo t, .int hi u, .int 1 v] } → small lo → small hi → RV G (.ref a) (.rng lo hi)
  | inst {a d : Nat} {es : List DictEntry} {n : Nat} {C : String} {at_ : List (String × AV)} : C ∈ clsNames → G a = some (instObj (cl C) d) → G d = some (dictOf es n) → AR G es at_ → RV G (.ref a) (.inst C at_)
inductive RVs (G : Tab) : List Value → List AV → Prop
  | nil : RVs G [] []
  | cons {v : Value} {x : AV} {vs : List Value} {xs : List AV} : RV G v x → RVs G vs xs → RVs G (v :: vs) (x :: xs)
inductive AR (G : Tab) : List DictEntry → List (String × AV) → Prop
  | nil : AR G [] []
  | cons {h : Int} {t : Tok} {v : Value} {n : String} {x : AV} {es : List DictEntry} {at_ : List (String × AV)} : RV G v x → AR G es at_ → AR G (⟨h, .str (Str.ofString n) t, v⟩ :: es) ((n, x) :: at_)
end

inductive RKV {K K' : Type} (f : K' → K) (G : Tab) : List (K × Value) → List (K' × AV) → Prop
  | nil : RKV f G [] []
  | cons {k : K'} {v : Value} {x : AV} {vs : List (K × Value)} {xs : List (K' × AV)} : RV prog w cl G v x → RKV f G vs xs → RKV f G ((f k, v) :: vs) ((k, x) :: xs)

inductive RKT (G : Tab) : List (List Int × Addr × Value) → List (List Int × AV) → Prop
  | nil : RKT G [] []
  | cons {k : List Int} {a : Nat} {its : Array Value} {n : Nat} {v : Value} {x : AV} {vs : List (List Int × Addr × Value)} {xs : List (List Int × AV)} :
      G a = some { cls := .type "tuple", data := .seq its n } → ItemsAre (intKind prog w) k its.toList → RV prog w cl G v x → RKT G vs xs → RKT G ((k, a, v) :: vs) ((k, x) :: xs)

/-- a mutable object stands for an abstract object -/
inductive RO (G : Tab) : Obj → AObj → Prop
  | list {items : Array Value} {n : Nat} {xs : List AV} : RVs prog w cl G items.toList xs → RO G { cls := .type "list", data := .seq items n } (.list xs)
  | dI {o : Obj} {cvs : List (Int × Value)} {kvs : List (Int × AV)} : o.IsDictOf (intKind prog w) cvs → RKV prog w cl id G cvs kvs → RO G o (.dI kvs)
  | dS {o : Obj} {cvs : List (Str × Value)} {kvs : List (String × AV)} : o.IsDictOf (strKind prog w) cvs → RKV prog w cl Str.ofString G cvs kvs → RO G o (.dS kvs)
  | dT {o : Obj} {es : Array DictEntry} {ep : Nat} {cvs : List (List Int × Addr × Value)} {kvs : List (List Int × AV)} : o.ExactDict → o.data = .dict es ep → es.toList = cvs.map (entryOfKey (tupleKind (intKind prog w))) →
      (cvs.map (·.1)).Nodup → RKT prog w cl G cvs kvs → RO G o (.dT kvs)
  | inst {C : String} {d : Nat} : C ∈ clsNames → RO G (instObj (cl C) d) (.inst C d)
  | attrs {es : List DictEntry} {n : Nat} {at_ : List (String × AV)} : AR prog w cl G es at_ → (at_.map (·.1)).Nodup → RO G (dictOf es n) (.attrs at_)

end

section
variable {prog : Program} {w : World} {cl : String → Nat} {G G' : Tab}

noncomputable def Ext (G G' : Tab) : Prop := ∀ a o, G a = some o → G' a = some o
theorem Ext.refl (G : Tab) : Ext G G := fun _ _ e => e
theorem Ext.trans {G G' G'' : Tab} (x : Ext G G') (y : Ext G' G'') : Ext G G'' := fun a o e => y a o (x a o e)

theorem RV.mono (h : Ext G G') {v : Value} {x : AV} (r : RV prog w cl G v x) : RV prog w cl G' v x :=
  RV.rec (motive_1 := fun v x _ => RV prog w cl G' v x) (motive_2 := fun v x _ => RVs prog w cl G' v x) (motive_3 := fun v x _ => AR prog w cl G' v x) .none .bool .int .str .ref (fun e _ i => .tup (h _ _ e) i) (fun e _ i => .fl (h _ _ e) i) (fun e r => .fd (h _ _ e) r) (fun e a b => .rng (h _ _ e) a b) (fun c e d _ i => .inst c (h _ _ e) (h _ _ d) i) .nil (fun _ _ a b => .cons a b) .nil (fun _ _ a b => .cons a b) r
theorem RVs.mono (h : Ext G G') {v : List Value} {x : List AV} (r : RVs prog w cl G v x) : RVs prog w cl G' v x :=
  RVs.rec (motive_1 := fun v x _ => RV prog w cl G' v x) (motive_2 := fun v x _ => RVs prog w cl G' v x) (motive_3 := fun v x _ => AR prog w cl G' v x) .none .bool .int .str .ref (fun e _ i => .tup (h _ _ e) i) (fun e _ i => .fl (h _ _ e) i) (fun e r => .fd (h _ _ e) r) (fun e a b => .rng (h _ _ e) a b) (fun c e d _ i => .inst c (h _ _ e) (h _ _ d) i) .nil (fun _ _ a b => .cons a b) .nil (fun _ _ a b => .cons a b) r
theorem AR.mono (h : Ext G G') {v : List DictEntry} {x : List (String × AV)} (r : AR prog w cl G v x) : AR prog w cl G' v x :=
  AR.rec (motive_1 := fun v x _ => RV prog w cl G' v x) (motive_2 := fun v x _ => RVs prog w cl G' v x) (motive_3 := fun v x _ => AR prog w cl G' v x) .none .bool .int .str .ref (fun e _ i => .tup (h _ _ e) i) (fun e _ i => .fl (h _ _ e) i) (fun e r => .fd (h _ _ e) r) (fun e a b => .rng (h _ _ e) a b) (fun c e d _ i => .inst c (h _ _ e) (h _ _ d) i) .nil (fun _ _ a b => .cons a b) .nil (fun _ _ a b => .cons a b) r
theorem RKV.mono {K K' : Type} {f : K' → K} (h : Ext G G') {vs : List (K × Value)} {xs : List (K' × AV)} (x : RKV prog w cl f G vs xs) : RKV prog w cl f G' vs xs := by
  induction x with
  | nil => exact .nil
  | cons a _ ih => exact .cons (a.mono h) ih
theorem RKT.mono (h : Ext G G') {vs : List (List Int × Addr × Value)} {xs : List (List Int × AV)} (x : RKT prog w cl G vs xs) : RKT prog w cl G' vs xs := by
  induction x with
  | nil => exact .nil
  | cons e i a _ ih => exact .cons (h _ _ e) i (a.mono h) ih
theorem RO.mono (h : Ext G G') {o : Obj} {x : AObj} (r : RO prog w cl G o x) : RO prog w cl G' o x := by
  cases r with
  | list r => exact .list (r.mono h)
  | dI a b => exact .dI a (b.mono h)
  | dS a b => exact .dS a (b.mono h)
  | dT a b c d e => exact .dT a b c d (e.mono h)
  | inst c => exact .inst c
  | attrs a b => exact .attrs (a.mono h) b

theorem intsOf_inv {x : AV} {xs : List AV} {is : List Int} (h : intsOf (x :: xs) = some is) : ∃ i is', x = .int i ∧ intsOf xs = some is' ∧ is = i :: is' := by
  cases x with
  | int i => obtain ⟨is', h', rfl⟩ := Option.map_eq_some_iff.mp h; exact ⟨_, _, rfl, h', rfl⟩
  | _ => cases h
theorem RVs.length {vs : List Value} {xs : List AV} (r : RVs prog w cl G vs xs) : vs.length = xs.length := by
  induction vs generalizing xs with
  | nil => cases r; rfl
  | cons v vs ih => cases r with | cons _ r => simp [ih r]
theorem RVs.get {vs : List Value} {xs : List AV} (r : RVs prog w cl G vs xs) {i : Nat} {v : Value} (e : vs[i]? = some v) : ∃ x, xs[i]? = some x ∧ RV prog w cl G v x := by
  induction vs generalizing xs i with
  | nil => simp at e
  | cons u vs ih =>
    cases r with
    | cons a r =>
      cases i with
      | zero => simp at e; subst e; exact ⟨_, by simp, a⟩
      | succ i => simp at e; simpa using ih r e
theorem RVs.get' {vs : List Value} {xs : List AV} (r : RVs prog w cl G vs xs) {i : Nat} {x : AV} (e : xs[i]? = some x) : ∃ v, vs[i]? = some v ∧ RV prog w cl G v x := by
  induction vs generalizing xs i with
  | nil => cases r; simp at e
  | cons u vs ih =>
    cases r with
    | cons a r =>
      cases i with
      | zero => simp at e; subst e; exact ⟨_, by simp, a⟩
      | succ i => simp at e; simpa using ih r e
theorem RVs.append {vs vs' : List Value} {xs xs' : List AV} (r : RVs prog w cl G vs xs) (r' : RVs prog w cl G vs' xs') : RVs prog w cl G (vs ++ vs') (xs ++ xs') := by
  induction vs generalizing xs with
  | nil => cases r; exact r'
  | cons v vs ih => cases r with | cons a r => exact .cons a (ih r)
theorem RVs.reverse {vs : List Value} {xs : List AV} (r : RVs prog w cl G vs xs) : RVs prog w cl G vs.reverse xs.reverse := by
  induction vs generalizing xs with
  | nil => cases r; exact .nil
  | cons v vs ih => cases r with | cons a r => rw [List.reverse_cons, List.reverse_cons]; exact (ih r).append (.cons a .nil)
theorem RVs.take {vs : List Value} {xs : List AV} (r : RVs prog w cl G vs xs) (n : Nat) : RVs prog w cl G (vs.take n) (xs.take n) := by
  induction vs generalizing xs n with
  | nil => cases r; simpa using .nil
  | cons v vs ih =>
    cases r with
    | cons a r =>
      cases n with
      | zero => exact .nil
      | succ n => exact .cons a (ih r n)
theorem RVs.intsAre {vs : List Value} {xs : List AV} {is : List Int} (r : RVs prog w cl G vs xs) (h : intsOf xs = some is) : IntsAre vs is := by
  induction vs generalizing xs is with
  | nil => cases r; cases h; exact .nil
  | cons v vs ih =>
    cases r with
    | cons a r =>
      rename_i x xs
      obtain ⟨i, is', rfl, h', rfl⟩ := intsOf_inv h
      cases a
      exact .cons _ _ (ih r h')
theorem RVs.ofInts {vs : List Value} {is : List Int} (r : IntsAre vs is) : RVs prog w cl G vs (is.map .int) := by
  induction r with
  | nil => exact .nil
  | cons _ _ _ ih => exact .cons (.int _ _) ih
theorem RVs.itemsAre {vs : List Value} {xs : List AV} {is : List Int} (r : RVs prog w cl G vs xs) (h : intsOf xs = some is) : ItemsAre (intKind prog w) is vs := by
  induction vs generalizing xs is with
  | nil => cases r; cases h; exact .nil
  | cons v vs ih =>
    cases r with
    | cons a r =>
      rename_i x xs
      obtain ⟨i, is', rfl, h', rfl⟩ := intsOf_inv h
      cases a
      exact .cons (intKind_is _ _ _ _) (ih r h')
end
end Mine
end
section
set_option Elab.async false
set_option maxRecDepth 100000
namespace Mine
open PySem PySem.W PySem.Calls PyProof.Rows

section
variable (prog : Program) (w : World) (cl : String → Nat)

noncomputable def AObj.isD : AObj → Bool
  | .dI _ => true | .dS _ => true | .dT _ => true | .attrs _ => true | _ => false

/-- the heap h: P is kept whole, G never changes again, own are the frame's own objects, hp says what the mutable objects hold -/
structure RelH (P G : Tab) (own : Nat → Prop) (hp : HP) (h : Heap) : Prop where
  keepP : ∀ a o, P a = some o → h.get? a = some o
  keepG : ∀ a o, G a = some o → h.get? a = some o
  ok : ∀ a x, hp a = some x → (∃ o, h.get? a = some o ∧ RO prog w cl G o x) ∧ P a = none ∧ G a = none ∧ ¬ own a
  ownD : ∀ a, own a → (∃ o, h.get? a = some o) ∧ P a = none ∧ G a = none
  disj : ∀ a o, P a = some o → G a = none
  gsys : ∀ o, G sysModules = some o → o.cls ≠ .type "dict"
  hsys : ∀ x, hp sysModules = some x → x.isD = false
  psys : ∃ a o, sysModules < a ∧ P a = some o

/-- what an expression's evaluation may do -/
structure Post (P G : Tab) (own : Nat → Prop) (s : Shared) (G' : Tab) (hp' : HP) (s' : Shared) : Prop where
  ext : Ext G G'
  rel : RelH prog w cl P G' own hp' s'.heap
  own : ∀ a, own a → s'.heap.get? a = s.heap.get? a
  same : ∃ h tk, s' = { s with heap := h, toks := tk }
end

section
variable {prog : Program} {w : World} {cl : String → Nat} {P G G' : Tab} {own : Nat → Prop} {hp hp' : HP} {h h' : Heap} {s s' : Shared}

noncomputable def Tab.set (G : Tab) (a : Nat) (o : Obj) : Tab := fun b => if b = a then some o else G b
theorem Tab.ext_set {G : Tab} {a : Nat} {o : Obj} (e : G a = none) : Ext G (G.set a o) := fun b x q => by
  unfold Tab.set; by_cases hb : b = a
  · subst hb; rw [e] at q; cases q
  · rw [if_neg hb]; exact q
theorem Tab.set_ne {G : Tab} {a b : Nat} {o : Obj} (hb : b ≠ a) : G.set a o b = G b := if_neg hb
theorem Tab.set_self {G : Tab} {a : Nat} {o : Obj} : G.set a o a = some o := by simp [Tab.set]

theorem none_of_size {h : Heap} {a : Nat} (e : h.objs.size ≤ a) : h.get? a = none := by
  cases q : h.get? a with
  | none => rfl
  | some o => exact absurd (Heap.lt_size q) (Nat.not_lt.mpr e)

theorem RelH.freshH (R : RelH prog w cl P G own hp h) {a : Nat} (e : h.get? a = none) : hp a = none := by
  cases q : hp a with
  | none => rfl
  | some x => obtain ⟨⟨o, ho, _⟩, _⟩ := R.ok a x q; rw [e] at ho; cases ho
theorem RelH.freshP (R : RelH prog w cl P G own hp h) {a : Nat} (e : h.get? a = none) : P a = none := by
  cases q : P a with
  | none => rfl
  | some x => have := R.keepP a x q; rw [e] at this; cases this
theorem RelH.freshG (R : RelH prog w cl P G own hp h) {a : Nat} (e : h.get? a = none) : G a = none := by
  cases q : G a with
  | none => rfl
  | some x => have := R.keepG a x q; rw [e] at this; cases this
theorem RelH.freshO (R : RelH prog w cl P G own hp h) {a : Nat} (e : h.get? a = none) : ¬ own a := fun q => by
  obtain ⟨⟨o, ho⟩, _⟩ := R.ownD a q; rw [e] at ho; cases ho
theorem RelH.hp_ne_sys (R : RelH prog w cl P G own hp h) {a : Nat} {x : AObj} (e : hp a = some x) (hd : x.isD = true := by rfl) : a ≠ sysModules := fun q => by
  have := R.hsys x (q ▸ e); rw [hd] at this; cases this
theorem RelH.g_ne_sys (R : RelH prog w cl P G own hp h) {a : Nat} {x : Obj} (e : G a = some x) (hc : x.cls = .type "dict") : a ≠ sysModules := fun q => R.gsys x (q ▸ e) hc
theorem RelH.low (R : RelH prog w cl P G own hp h) : sysModules < h.objs.size := by
  obtain ⟨a, o, h1, h2⟩ := R.psys
  exact Nat.lt_trans h1 (Heap.lt_size (R.keepP _ _ h2))
theorem RelH.ne_size (R : RelH prog w cl P G own hp h) (k : Nat) : h.objs.size + k ≠ sysModules := Nat.ne_of_gt (Nat.lt_of_lt_of_le R.low (Nat.le_add_right _ _))

theorem RelH.grow (R : RelH prog w cl P G own hp h) (k : ∀ b o, h.get? b = some o → h'.get? b = some o) : RelH prog w cl P G own hp h' where
  keepP a o e := k _ _ (R.keepP a o e)
  keepG a o e := k _ _ (R.keepG a o e)
  ok a x e := let ⟨⟨o, ho, r⟩, q⟩ := R.ok a x e; ⟨⟨o, k _ _ ho, r⟩, q⟩
  ownD a e := let ⟨⟨o, ho⟩, q⟩ := R.ownD a e; ⟨⟨o, k _ _ ho⟩, q⟩
  disj := R.disj
  gsys := R.gsys
  hsys := R.hsys
  psys := R.psys

/-- an object is frozen (a new one, or one that no one else knows) -/
theorem RelH.addG (R : RelH prog w cl P G own hp h) {a : Nat} {o : Obj} (ho : h.get? a = some o) (e1 : G a = none) (e2 : P a = none) (e3 : ¬ own a) (e4 : hp a = none)
    (hz : a = sysModules → o.cls ≠ .type "dict") : RelH prog w cl P (G.set a o) own hp h where
  keepP := R.keepP
  keepG b x e := by
    unfold Tab.set at e; by_cases hb : b = a
    · subst hb; rw [if_pos rfl] at e; cases e; exact ho
    · rw [if_neg hb] at e; exact R.keepG b x e
  ok b x e := by
    obtain ⟨⟨q, hq, r⟩, p1, p2, p3⟩ := R.ok b x e
    refine ⟨⟨q, hq, r.mono (Tab.ext_set e1)⟩, p1, ?_, p3⟩
    rw [Tab.set_ne (fun hb => by subst hb; rw [e4] at e; cases e)]; exact p2
  ownD b e := by
    obtain ⟨q, p1, p2⟩ := R.ownD b e
    refine ⟨q, p1, ?_⟩
    rw [Tab.set_ne (fun hb => e3 (by rw [← hb]; exact e))]; exact p2
  disj b x e := by
    rw [Tab.set_ne (fun hb => by rw [hb, e2] at e; cases e)]; exact R.disj b x e
  gsys q e := by
    unfold Tab.set at e; by_cases hb : sysModules = a
    · rw [if_pos hb] at e; cases e; exact hz hb.symm
    · rw [if_neg hb] at e; exact R.gsys q e
  hsys := R.hsys
  psys := R.psys

/-- a new mutable object -/
theorem RelH.addH (R : RelH prog w cl P G own hp h) {a : Nat} {o : Obj} {x : AObj} (ho : h.get? a = some o) (r : RO prog w cl G o x) (e1 : G a = none) (e2 : P a = none) (e3 : ¬ own a)
    (hz : a = sysModules → x.isD = false) : RelH prog w cl P G own (hp.set a x) h where
  keepP := R.keepP
  keepG := R.keepG
  ok b y e := by
    unfold HP.set at e; by_cases hb : b = a
    · subst hb; rw [if_pos rfl] at e; cases e; exact ⟨⟨o, ho, r⟩, e2, e1, e3⟩
    · rw [if_neg hb] at e; exact R.ok b y e
  ownD := R.ownD
  disj := R.disj
  gsys := R.gsys
  hsys y e := by
    unfold HP.set at e; by_cases hb : sysModules = a
    · rw [if_pos hb] at e; cases e; exact hz hb.symm
    · rw [if_neg hb] at e; exact R.hsys y e
  psys := R.psys

theorem RelH.sub (R : RelH prog w cl P G own hp h) (k : HP.Sub hp' hp) : RelH prog w cl P G own hp' h :=
  ⟨R.keepP, R.keepG, fun a x e => R.ok a x (k a x e), R.ownD, R.disj, R.gsys, fun x e => R.hsys x (k _ x e), R.psys⟩

/-- one mutable object is changed -/
theorem RelH.upd (R : RelH prog w cl P G own hp h) {a : Nat} {o' : Obj} {x x' : AObj} (e : hp a = some x) (k : ∀ b, b ≠ a → h'.get? b = h.get? b) (ho : h'.get? a = some o') (r : RO prog w cl G o' x') (hi : x'.isD = x.isD := by rfl) :
    RelH prog w cl P G own (hp.set a x') h' where
  keepP b o q := (k b (fun hb => by have := (R.ok a x e).2.1; rw [← hb, q] at this; cases this)).trans (R.keepP b o q)
  keepG b o q := (k b (fun hb => by have := (R.ok a x e).2.2.1; rw [← hb, q] at this; cases this)).trans (R.keepG b o q)
  ok b y q := by
    unfold HP.set at q; by_cases hb : b = a
    · subst hb; rw [if_pos rfl] at q; cases q; exact ⟨⟨o', ho, r⟩, (R.ok b x e).2⟩
    · rw [if_neg hb] at q
      obtain ⟨⟨z, hz, rz⟩, p⟩ := R.ok b y q
      exact ⟨⟨z, (k b hb).trans hz, rz⟩, p⟩
  ownD b q := by
    obtain ⟨⟨z, hz⟩, p⟩ := R.ownD b q
    exact ⟨⟨z, (k b (fun hb => (R.ok a x e).2.2.2 (hb ▸ q))).trans hz⟩, p⟩
  disj := R.disj
  gsys := R.gsys
  hsys y q := by
    unfold HP.set at q; by_cases hb : sysModules = a
    · rw [if_pos hb] at q; cases q; rw [hi]; exact R.hsys x (hb ▸ e)
    · rw [if_neg hb] at q; exact R.hsys y q
  psys := R.psys

/-- one of the frame's own objects is changed -/
theorem RelH.updOwn (R : RelH prog w cl P G own hp h) {a : Nat} {o' : Obj} (e : own a) (k : ∀ b, b ≠ a → h'.get? b = h.get? b) (ho : h'.get? a = some o') :
    RelH prog w cl P G own hp h' where
  keepP b o q := (k b (fun hb => by have := (R.ownD a e).2.1; rw [← hb, q] at this; cases this)).trans (R.keepP b o q)
  keepG b o q := (k b (fun hb => by have := (R.ownD a e).2.2; rw [← hb, q] at this; cases this)).trans (R.keepG b o q)
  ok b y q := by
    obtain ⟨⟨z, hz, rz⟩, p⟩ := R.ok b y q
    exact ⟨⟨z, (k b (fun hb => p.2.2 (hb ▸ e))).trans hz, rz⟩, p⟩
  ownD b q := by
    obtain ⟨⟨z, hz⟩, p⟩ := R.ownD b q
    refine ⟨?_, p⟩
    by_cases hb : b = a
    · subst hb; exact ⟨_, ho⟩
    · exact ⟨z, (k b hb).trans hz⟩
  disj := R.disj
  gsys := R.gsys
  hsys := R.hsys
  psys := R.psys

/-- an object is kept whole for a while -/
theorem RelH.addP (R : RelH prog w cl P G own hp h) {a : Nat} {o : Obj} (ho : h.get? a = some o) (e1 : hp a = none) (e2 : ¬ own a) (e3 : G a = none) :
    RelH prog w cl (P.set a o) G own hp h where
  keepP b x e := by
    unfold Tab.set at e; by_cases hb : b = a
    · subst hb; rw [if_pos rfl] at e; cases e; exact ho
    · rw [if_neg hb] at e; exact R.keepP b x e
  keepG := R.keepG
  ok b x e := by
    obtain ⟨q, p1, p2⟩ := R.ok b x e
    refine ⟨q, ?_, p2⟩
    rw [Tab.set_ne (fun hb => by subst hb; rw [e1] at e; cases e)]; exact p1
  ownD b e := by
    obtain ⟨q, p1, p2⟩ := R.ownD b e
    refine ⟨q, ?_, p2⟩
    rw [Tab.set_ne (fun hb => e2 (by rw [← hb]; exact e))]; exact p1
  disj b x e := by
    by_cases hb : b = a
    · rw [hb]; exact e3
    · rw [Tab.set_ne hb] at e; exact R.disj b x e
  gsys := R.gsys
  hsys := R.hsys
  psys := by
    obtain ⟨b, x, hb, hx⟩ := R.psys
    unfold Tab.set; by_cases hb' : b = a
    · exact ⟨b, o, hb, by rw [if_pos hb']⟩
    · exact ⟨b, x, hb, by rw [if_neg hb']; exact hx⟩

theorem Post.refl (R : RelH prog w cl P G own hp s.heap) : Post prog w cl P G own s G hp s := ⟨Ext.refl _, R, fun _ _ => rfl, _, _, rfl⟩
theorem Post.trans {G'' : Tab} {hp'' : HP} {s'' : Shared} (x : Post prog w cl P G own s G' hp' s') (y : Post prog w cl P G' own s' G'' hp'' s'') : Post prog w cl P G own s G'' hp'' s'' := by
  obtain ⟨a1, a2, a3, h1, t1, e1⟩ := x
  obtain ⟨b1, b2, b3, h2, t2, e2⟩ := y
  refine ⟨a1.trans b1, b2, fun a q => (b3 a q).trans (a3 a q), h2, t2, ?_⟩
  rw [e2, e1]
/-- the numbers drawn (toks) do not matter -/
theorem Post.tok (R : RelH prog w cl P G own hp s.heap) (t : Nat) : Post prog w cl P G own s G hp { s with toks := t } := ⟨Ext.refl _, R, fun _ _ => rfl, _, _, rfl⟩
theorem Post.growTo (R : RelH prog w cl P G own hp s.heap) {t : Nat} (k : ∀ b o, s.heap.get? b = some o → h'.get? b = some o) : Post prog w cl P G own s G hp { s with heap := h', toks := t } :=
  ⟨Ext.refl _, R.grow k, fun a q => by obtain ⟨⟨o, ho⟩, _⟩ := R.ownD a q; rw [ho]; exact k _ _ ho, _, _, rfl⟩
/-- a new object, frozen at once -/
theorem Post.newG (R : RelH prog w cl P G own hp s.heap) {a t : Nat} {o : Obj} (k : ∀ b o, s.heap.get? b = some o → h'.get? b = some o) (ha : s.heap.get? a = none) (ho : h'.get? a = some o)
    (hz : a = sysModules → o.cls ≠ .type "dict" := by intro _ h; injection h with h; exact absurd h (by decide)) : Post prog w cl P G own s (G.set a o) hp { s with heap := h', toks := t } :=
  ⟨Tab.ext_set (R.freshG ha), (R.grow k).addG ho (R.freshG ha) (R.freshP ha) (R.freshO ha) (R.freshH ha) hz, fun b q => by obtain ⟨⟨o, ho⟩, _⟩ := R.ownD b q; rw [ho]; exact k _ _ ho, _, _, rfl⟩
theorem Post.newH (R : RelH prog w cl P G own hp s.heap) {a t : Nat} {o : Obj} {x : AObj} (k : ∀ b o, s.heap.get? b = some o → h'.get? b = some o) (ha : s.heap.get? a = none) (ho : h'.get? a = some o) (r : RO prog w cl G o x)
    (hz : a = sysModules → x.isD = false := by exact fun _ => rfl) : Post prog w cl P G own s G (hp.set a x) { s with heap := h', toks := t } :=
  ⟨Ext.refl _, (R.grow k).addH ho r (R.freshG ha) (R.freshP ha) (R.freshO ha) hz, fun b q => by obtain ⟨⟨o, ho⟩, _⟩ := R.ownD b q; rw [ho]; exact k _ _ ho, _, _, rfl⟩
theorem Post.upd (R : RelH prog w cl P G own hp s.heap) {a t : Nat} {o' : Obj} {x x' : AObj} (e : hp a = some x) (k : ∀ b, b ≠ a → h'.get? b = s.heap.get? b) (ho : h'.get? a = some o') (r : RO prog w cl G o' x')
    (hi : x'.isD = x.isD := by rfl) : Post prog w cl P G own s G (hp.set a x') { s with heap := h', toks := t } :=
  ⟨Ext.refl _, R.upd e k ho r hi, fun b q => k b (fun hb => (R.ok a x e).2.2.2 (hb ▸ q)), _, _, rfl⟩

end
end Mine
end
section
set_option Elab.async false
set_option maxRecDepth 100000
namespace Mine
open PySem PySem.W PySem.Calls PyProof.Rows

section
variable (prog : Program) (w : World) (cl : String → Nat)

structure AOk (n : Nat) (A : Around) : Prop where
  handled : A.handled = none
  depth : A.depth + 3 * n + 20 < 1000
  units : A.units + 20 * n + 200 < 9900

structure EnvOk (env : Env) (own : Nat → Prop) (P : Tab) (h : Heap) : Prop where
  kind : env.scope.kind = .function
  glob : env.globals = mainGlobals
  blt : env.builtins = builtinsNs
  ns : ∃ ml, h.Ns env.locals ml
  ownL : own env.locals
  cell : ∀ x, env.kindOf x = some .cell → ∃ c v, env.cells.lookup x = some c ∧ h.IsCell c v ∧ (own c ∨ ∃ o, P c = some o)

structure EnvS (env : Env) : Prop where
  inj : ∀ x y c, env.cells.lookup x = some c → env.cells.lookup y = some c → x = y
  neL : ∀ x c, env.cells.lookup x = some c → c ≠ env.locals

noncomputable def VarAt (env : Env) (h : Heap) (x : Str) (v : Value) : Prop :=
  (env.kindOf x = some .local ∧ ∃ ml, h.Ns env.locals ml ∧ ml x = some v) ∨ (env.kindOf x = some .cell ∧ ∃ c, env.cells.lookup x = some c ∧ h.IsCell c (some v))
noncomputable def Vis (env : Env) (x : String) : Prop := (env.kindOf (Str.ofString x) = some .local ∨ env.kindOf (Str.ofString x) = some .cell) ∧ x ≠ ".0"
noncomputable def LocOk (env : Env) (G : Tab) (loc : Loc) (h : Heap) : Prop := ∀ x v, loc x = some v → Vis env x → ∃ u, VarAt env h (Str.ofString x) u ∧ RV prog w cl G u v

structure Ctx (h0 : Heap) (n : Nat) (sc : Scope) (env : Env) (A : Around) (P G : Tab) (own : Nat → Prop) (loc : Loc) (hp : HP) (s : Shared) : Prop where
  sc : env.scope = sc
  aok : AOk n A
  base : ∀ a o, h0.get? a = some o → P a = some o ∨ G a = some o
  rel : RelH prog w cl P G own hp s.heap
  eok : EnvOk env own P s.heap
  lok : LocOk prog w cl env G loc s.heap

noncomputable def Kont (P G : Tab) (own : Nat → Prop) (s : Shared) (K : AV → HP → Prop) (Q : Value → Shared → Prop) : Prop :=
  ∀ v x hp' G' s', K x hp' → RV prog w cl G' v x → Post prog w cl P G own s G' hp' s' → Q v s'

abbrev WE := Loc → HP → (AV → HP → Prop) → Prop

noncomputable def SE (h0 : Heap) (n : Nat) (sc : Scope) (ex : Expr) (W : WE) : Prop :=
  ∀ env A P G own loc hp s K Q E, Ctx prog w cl h0 n sc env A P G own loc hp s → EnvS env → W loc hp K → Kont prog w cl P G own s K Q → wpAny (model prog w) A (eval ex env) Q E s
noncomputable def ST (h0 : Heap) (n : Nat) (sc : Scope) (ex : Expr) (W : WE) : Prop :=
  ∀ env A P G own loc hp s (K : Bool → HP → Prop) (Q : Bool → Shared → Prop) E, Ctx prog w cl h0 n sc env A P G own loc hp s → EnvS env → W loc hp (tv K) →
    (∀ b hp' G' s', K b hp' → Post prog w cl P G own s G' hp' s' → Q b s') → wpAny (model prog w) A (isTrue ex env (eval ex env)) Q E s
end

section
variable {prog : Program} {w : World} {cl : String → Nat} {h0 : Heap} {n : Nat} {sc : Scope} {env : Env} {A : Around} {P G G' : Tab} {own : Nat → Prop} {loc : Loc} {hp hp' : HP} {s s' : Shared}

theorem EnvOk.step (x : EnvOk env own P s.heap) (p : Post prog w cl P G own s G' hp' s') (R : RelH prog w cl P G own hp s.heap) : EnvOk env own P s'.heap where
  kind := x.kind
  glob := x.glob
  blt := x.blt
  ns := let ⟨ml, o, es, ep, ho, r⟩ := x.ns; ⟨ml, o, es, ep, (p.own _ x.ownL).trans ho, r⟩
  ownL := x.ownL
  cell y e := by
    obtain ⟨c, v, h1, ⟨o, ho, hd⟩, h3⟩ := x.cell y e
    refine ⟨c, v, h1, ⟨o, ?_, hd⟩, h3⟩
    rcases h3 with q | ⟨o', q⟩
    · exact (p.own _ q).trans ho
    · have a1 := R.keepP _ _ q
      rw [ho] at a1; cases a1
      exact p.rel.keepP _ _ q

theorem VarAt.step (x : EnvOk env own P s.heap) (p : Post prog w cl P G own s G' hp' s') (R : RelH prog w cl P G own hp s.heap) {y : Str} {v : Value} (h : VarAt env s.heap y v) : VarAt env s'.heap y v := by
  rcases h with ⟨k, ml, ⟨o, es, ep, ho, r⟩, e⟩ | ⟨k, c, hc, o, ho, hd⟩
  · exact .inl ⟨k, ml, ⟨o, es, ep, (p.own _ x.ownL).trans ho, r⟩, e⟩
  · obtain ⟨c', v', h1, _, h3⟩ := x.cell y k
    rw [hc] at h1; cases h1
    refine .inr ⟨k, c, hc, o, ?_, hd⟩
    rcases h3 with q | ⟨o', q⟩
    · exact (p.own _ q).trans ho
    · have a1 := R.keepP _ _ q
      rw [ho] at a1; cases a1
      exact p.rel.keepP _ _ q

theorem Ctx.step (c : Ctx prog w cl h0 n sc env A P G own loc hp s) (p : Post prog w cl P G own s G' hp' s') : Ctx prog w cl h0 n sc env A P G' own loc hp' s' where
  sc := c.sc
  aok := c.aok
  base a o e := (c.base a o e).imp id (p.ext a o)
  rel := p.rel
  eok := c.eok.step p c.rel
  lok x v e hv := by
    obtain ⟨u, h1, h2⟩ := c.lok x v e hv
    exact ⟨u, h1.step c.eok p c.rel, h2.mono p.ext⟩

theorem Kont.after {K : AV → HP → Prop} {Q : Value → Shared → Prop} (k : Kont prog w cl P G own s K Q) (p : Post prog w cl P G own s G' hp' s') : Kont prog w cl P G' own s' K Q :=
  fun v x hp'' G'' s'' hk r q => k v x hp'' G'' s'' hk r (p.trans q)

theorem var_eval {x : String} {v : AV} {pos : Pos} {Q : Value → Shared → Prop} {E : Value → Shared → Prop} (c : Ctx prog w cl h0 n sc env A P G own loc hp s) (e : loc x = some v) (hvis : Vis env x)
    (hd : (Str.ofString x == ("__debug__" : Str)) = false) (h : ∀ u, RV prog w cl G u v → Q u s) : wpAny (model prog w) A (eval (.Name (Str.ofString x) pos) env) Q E s := by
  obtain ⟨u, h1, h2⟩ := c.lok x v e hvis
  refine wpAny_Name ?_ hd
  rcases h1 with ⟨k, ml, hn, e⟩ | ⟨k, cc, hc, hi⟩
  · exact wpAny_loadName_local c.eok.kind k hn e (h u h2)
  · exact wpAny_loadName_cell c.eok.kind k hc hi (h u h2)

theorem RVs.size {items : Array Value} {xs : List AV} (r : RVs prog w cl G items.toList xs) : items.size = xs.length := by
  rw [← r.length]; simp
theorem RV.int_inv {v : Value} {i : Int} (r : RV prog w cl G v (.int i)) : ∃ t, v = .int i t := by cases r; exact ⟨_, rfl⟩
theorem RV.str_inv {v : Value} {i : String} (r : RV prog w cl G v (.str i)) : ∃ t, v = .str (Str.ofString i) t := by cases r; exact ⟨_, rfl⟩
theorem RV.bool_inv {v : Value} {i : Bool} (r : RV prog w cl G v (.bool i)) : v = .bool i := by cases r; rfl
theorem RV.ref_inv {v : Value} {a : Nat} (r : RV prog w cl G v (.ref a)) : v = .ref a := by cases r; rfl
theorem RV.fl_inv {v : Value} {xs : List AV} (r : RV prog w cl G v (.fl xs)) : ∃ a items n, v = .ref a ∧ G a = some { cls := .type "list", data := .seq items n } ∧ RVs prog w cl G items.toList xs := by cases r with | fl g r => exact ⟨_, _, _, rfl, g, r⟩
theorem RV.tup_inv {v : Value} {xs : List AV} (r : RV prog w cl G v (.tup xs)) : ∃ a items n, v = .ref a ∧ G a = some { cls := .type "tuple", data := .seq items n } ∧ RVs prog w cl G items.toList xs := by cases r with | tup g r => exact ⟨_, _, _, rfl, g, r⟩
theorem RV.fd_inv {v : Value} {ks : List Int} (r : RV prog w cl G v (.fd ks)) : ∃ a o, v = .ref a ∧ G a = some o ∧ o.IsDictOf (intKind prog w) (ks.map fun k => (k, Value.bool true)) := by cases r with | fd g r => exact ⟨_, _, rfl, g, r⟩
theorem RV.rng_inv {v : Value} {lo hi : Int} (r : RV prog w cl G v (.rng lo hi)) : ∃ a t u z, v = .ref a ∧ G a = some { cls := .type "range", data := .fields #[.int lo t, .int hi u, .int 1 z] } ∧ small lo ∧ small hi := by cases r with | rng g a b => exact ⟨_, _, _, _, rfl, g, a, b⟩
theorem RV.none_inv {v : Value} (r : RV prog w cl G v .none) : v = .none := by cases r; rfl
theorem onI_inv {x : AV} {f : Int → Prop} (h : onI x f) : ∃ i, x = .int i ∧ f i := by cases x <;> first | exact ⟨_, rfl, h⟩ | exact h.elim
theorem onS_inv {x : AV} {f : String → Prop} (h : onS x f) : ∃ i, x = .str i ∧ f i := by cases x <;> first | exact ⟨_, rfl, h⟩ | exact h.elim
theorem onB_inv {x : AV} {f : Bool → Prop} (h : onB x f) : ∃ i, x = .bool i ∧ f i := by cases x <;> first | exact ⟨_, rfl, h⟩ | exact h.elim
theorem onR_inv {x : AV} {f : Nat → Prop} (h : onR x f) : ∃ i, x = .ref i ∧ f i := by cases x <;> first | exact ⟨_, rfl, h⟩ | exact h.elim
theorem onL_inv {x : AV} {f : List AV → Prop} (h : onL x f) : ∃ i, x = .fl i ∧ f i := by cases x <;> first | exact ⟨_, rfl, h⟩ | exact h.elim
theorem onD_inv {x : AV} {f : List Int → Prop} (h : onD x f) : ∃ i, x = .fd i ∧ f i := by cases x <;> first | exact ⟨_, rfl, h⟩ | exact h.elim
theorem on0_inv {xs : List AV} {p : Prop} (h : on0 xs p) : xs = [] ∧ p := by cases xs <;> first | exact ⟨rfl, h⟩ | exact h.elim
theorem on1_inv {xs : List AV} {f : AV → Prop} (h : on1 xs f) : ∃ x, xs = [x] ∧ f x := by
  cases xs with
  | nil => exact h.elim
  | cons x xs => cases xs with
    | nil => exact ⟨x, rfl, h⟩
    | cons _ _ => exact h.elim
theorem on2_inv {xs : List AV} {f : AV → AV → Prop} (h : on2 xs f) : ∃ x y, xs = [x, y] ∧ f x y := by
  cases xs with
  | nil => exact h.elim
  | cons x xs => cases xs with
    | nil => exact h.elim
    | cons y xs => cases xs with
      | nil => exact ⟨x, y, rfl, h⟩
      | cons _ _ => exact h.elim
theorem lsAt {a : Nat} {xs : List AV} (R : RelH prog w cl P G own hp s.heap) (q : hp a = some (.list xs)) : ∃ items n, IsL s.heap a items n ∧ RVs prog w cl G items.toList xs := by
  obtain ⟨⟨o, ho, r⟩, _⟩ := R.ok _ _ q
  cases r with | list r => exact ⟨_, _, ho, r⟩
theorem listAt {v : Value} {x : AV} {xs : List AV} (R : RelH prog w cl P G own hp s.heap) (r : RV prog w cl G v x) (e : asList x hp = some xs) :
    ∃ a items n, v = .ref a ∧ IsL s.heap a items n ∧ RVs prog w cl G items.toList xs := by
  unfold asList at e
  split at e
  · cases e
    obtain ⟨a, its, n, rfl, g, b⟩ := r.fl_inv
    exact ⟨_, _, _, rfl, R.keepG _ _ g, b⟩
  · obtain rfl := r.ref_inv
    split at e
    · rename_i q; cases e
      obtain ⟨its, n, h⟩ := lsAt R q
      exact ⟨_, _, _, rfl, h⟩
    · cases e
  · cases e
end
end Mine
end
section
set_option Elab.async false
set_option maxRecDepth 100000
namespace Mine
open PySem PySem.W PySem.Calls PyProof.Rows

theorem small_nat {i : Int} (h : small i) : i.natAbs < 2 ^ 64 := by obtain ⟨a, b⟩ := h; omega
theorem small_63 {i : Int} (h : small i) : -2 ^ 63 ≤ i ∧ i < 2 ^ 63 := by obtain ⟨a, b⟩ := h; exact ⟨Int.le_of_lt (Int.lt_trans (by decide) a), Int.lt_trans b (by decide)⟩
theorem sz_line {n : Nat} (h : n ≤ SZ) : n ≤ sizeLine := by rw [sizeLine_eq]; unfold SZ at h; exact Nat.le_trans h (by decide)
theorem fmod_pos {i j : Int} (h : 0 < j) : i.fmod j = i % j := Int.fmod_eq_emod_of_nonneg _ (Int.le_of_lt h)
theorem fdiv_pos {i j : Int} (h : 0 < j) : i.fdiv j = i / j := Int.fdiv_eq_ediv_of_nonneg _ (Int.le_of_lt h)

theorem ofString_inj {a b : String} (h : Str.ofString a = Str.ofString b) : a = b := by
  have e := Str.mk.inj h
  have e2 : cpsOfBytes 0 0 a.toByteArray.data.toList = cpsOfBytes 0 0 b.toByteArray.data.toList := by
    have := congrArg Array.toList e
    simpa using this
  rw [cpsOfBytes_string, cpsOfBytes_string] at e2
  have e3 : a.toList = b.toList := List.map_inj_right (fun x y h => by exact Char.toNat_inj.mp h) |>.mp e2
  exact String.toList_inj.mp e3

section
variable {prog : Program} {w : World} {cl : String → Nat} {h0 : Heap} {n : Nat} {sc : Scope} {env : Env} {A : Around} {P G G' : Tab} {own : Nat → Prop} {loc : Loc} {hp hp' : HP} {s s' : Shared}
  {Q : Value → Shared → Prop} {E : Value → Shared → Prop} {K : AV → HP → Prop}

noncomputable def opOf : Op2 → Operator
  | .add => .Add | .sub => .Sub | .mul => .Mult | .fdiv => .FloorDiv | .mod => .Mod | .pow => .Pow | .shl => .LShift
noncomputable def cmOf : Cmp → CmpOp
  | .eq => .Eq | .ne => .NotEq | .lt => .Lt | .gt => .Gt | .le => .LtE | .in_ => .In | .nin => .NotIn
theorem snd_bin {op : Op2} {op' : Operator} (ho : op' = opOf op)
    {u v : Value} {x y : AV} (R : RelH prog w cl P G own hp s.heap) (ru : RV prog w cl G u x) (rv : RV prog w cl G v y) (hw : wpBin op x y hp K) (k : Kont prog w cl P G own s K Q) :
    wpAny (model prog w) A (binaryOp op' u v) Q E s := by
  subst ho
  cases op with
  | add =>
    unfold wpBin at hw
    dsimp only at hw
    split at hw
    · obtain ⟨j, rfl, hk⟩ := onI_inv hw
      obtain ⟨t, rfl⟩ := ru.int_inv
      obtain ⟨t2, rfl⟩ := rv.int_inv
      exact PyProof.Rows.add_int (k _ _ _ _ _ hk (.int _ _) (Post.tok R _))
    · obtain ⟨xs, ys, e1, e2, hsz, hk⟩ := hw
      obtain ⟨a, its, m, rfl, h1, r1⟩ := listAt R ru e1
      obtain ⟨b, its2, m2, rfl, h2, r2⟩ := listAt R rv e2
      refine PySem.P.add_list h1 h2 ?_ (by rw [r1.size, r2.size]; exact sz_line hsz)
      have p := Post.newG (t := s.toks) R (fun b o => Heap.get?_push_of_some ({ cls := .type "list", data := .seq (its ++ its2) } : Obj)) (none_of_size (Nat.le_refl _)) (Heap.get?_push_size s.heap rfl)
      exact k _ _ _ _ _ hk (.fl (Tab.set_self) (by rw [Array.toList_append]; exact (r1.mono p.ext).append (r2.mono p.ext))) p
  | sub =>
    obtain ⟨i, rfl, h⟩ := onI_inv hw
    obtain ⟨j, rfl, hk⟩ := onI_inv h
    obtain ⟨t, rfl⟩ := ru.int_inv
    obtain ⟨t2, rfl⟩ := rv.int_inv
    exact PyProof.Rows.sub_int (k _ _ _ _ _ hk (.int _ _) (Post.tok R _))
  | mul =>
    obtain ⟨i, rfl, h⟩ := onI_inv hw
    obtain ⟨j, rfl, a, b, hk⟩ := onI_inv h
    obtain ⟨t, rfl⟩ := ru.int_inv
    obtain ⟨t2, rfl⟩ := rv.int_inv
    exact PyProof.Rows.mul_int (k _ _ _ _ _ hk (.int _ _) (Post.tok R _)) (IntMulOk.of_left (intBits_le_64 (by obtain ⟨x, y⟩ := a; exact Int.lt_of_lt_of_le (by decide) (Int.le_of_lt x)) (by obtain ⟨x, y⟩ := a; exact Int.lt_of_lt_of_le y (by decide))))
  | fdiv =>
    obtain ⟨i, rfl, h⟩ := onI_inv hw
    obtain ⟨j, rfl, a, b, hk⟩ := onI_inv h
    obtain ⟨t, rfl⟩ := ru.int_inv
    obtain ⟨t2, rfl⟩ := rv.int_inv
    refine PyProof.Rows.floordiv_int (by exact Int.ne_of_gt a) ?_ (.inl (PyProof.noPylong_small (by omega)))
    rw [fdiv_pos a]
    exact k _ _ _ _ _ hk (.int _ _) (Post.tok R _)
  | mod =>
    obtain ⟨i, rfl, h⟩ := onI_inv hw
    obtain ⟨j, rfl, a, hk⟩ := onI_inv h
    obtain ⟨t, rfl⟩ := ru.int_inv
    obtain ⟨t2, rfl⟩ := rv.int_inv
    refine PyProof.Rows.mod_int' (by exact Int.ne_of_gt a) ?_
    rw [fmod_pos a]
    exact k _ _ _ _ _ hk (.int _ _) (Post.tok R _)
  | pow =>
    obtain ⟨i, rfl, h⟩ := onI_inv hw
    obtain ⟨j, rfl, a, b, c, hk⟩ := onI_inv h
    obtain ⟨t, rfl⟩ := ru.int_inv
    obtain ⟨t2, rfl⟩ := rv.int_inv
    exact PyProof.Rows.pow_int_small b (by exact Int.le_trans c (by decide)) (small_nat a) (k _ _ _ _ _ hk (.int _ _) (Post.tok R _))
  | shl =>
    obtain ⟨i, rfl, h⟩ := onI_inv hw
    obtain ⟨j, rfl, a, b, c, hk⟩ := onI_inv h
    obtain ⟨t, rfl⟩ := ru.int_inv
    obtain ⟨t2, rfl⟩ := rv.int_inv
    exact PyProof.Rows.lshift_int_small b (by exact Int.le_trans c (by decide)) (small_nat a) (k _ _ _ _ _ hk (.int _ _) (Post.tok R _))

theorem str_beq (a b : String) : ((Str.ofString a).cps.toList == (Str.ofString b).cps.toList) = decide (a = b) := by
  by_cases h : a = b
  · subst h; simp
  · rw [decide_eq_false h]
    refine beq_eq_false_iff_ne.mpr fun e => h (ofString_inj ?_)
    cases ha : Str.ofString a; cases hb : Str.ofString b
    rw [ha, hb] at e
    exact congrArg Str.mk (Array.toList_inj.mp e)


theorem RKV.get {K K' : Type} [DecidableEq K] [DecidableEq K'] {f : K' → K} (hf : ∀ a b, f a = f b → a = b) {cvs : List (K × Value)} {kvs : List (K' × AV)} (r : RKV prog w cl f G cvs kvs) (k : K') :
    (match aGet kvs k with | some x => ∃ v, valueAt cvs (f k) = some v ∧ RV prog w cl G v x | none => valueAt cvs (f k) = none) := by
  induction r with
  | nil => simp [aGet, valueAt]
  | @cons k' v x vs xs a r ih =>
    by_cases h : k' = k
    · subst h; simp [aGet, valueAt, a]
    · have h' : ¬ f k' = f k := fun e => h (hf _ _ e)
      simpa [aGet, valueAt, h, h'] using ih
theorem RKV.keys {K K' : Type} {f : K' → K} {cvs : List (K × Value)} {kvs : List (K' × AV)} (r : RKV prog w cl f G cvs kvs) : cvs.map (·.1) = (kvs.map (·.1)).map f := by
  induction r with
  | nil => rfl
  | cons _ _ ih => simp [ih]
theorem RKV.length {K K' : Type} {f : K' → K} {cvs : List (K × Value)} {kvs : List (K' × AV)} (r : RKV prog w cl f G cvs kvs) : cvs.length = kvs.length := by
  induction r with
  | nil => rfl
  | cons _ _ ih => simp [ih]
theorem RKV.any {K K' : Type} [DecidableEq K] [DecidableEq K'] {f : K' → K} (hf : ∀ a b, f a = f b → a = b) {cvs : List (K × Value)} {kvs : List (K' × AV)} (r : RKV prog w cl f G cvs kvs) (k : K') :
    (cvs.any fun kv => decide (kv.1 = f k)) = (kvs.any fun kv => decide (kv.1 = k)) := by
  induction r with
  | nil => rfl
  | @cons k' v x vs xs a r ih =>
    have e : decide (f k' = f k) = decide (k' = k) := by
      rw [decide_eq_decide]; exact ⟨hf _ _, congrArg f⟩
    simp only [List.any_cons, ih, e]
theorem RKV.append {K K' : Type} {f : K' → K} {cvs cvs' : List (K × Value)} {kvs kvs' : List (K' × AV)} (r : RKV prog w cl f G cvs kvs) (r' : RKV prog w cl f G cvs' kvs') : RKV prog w cl f G (cvs ++ cvs') (kvs ++ kvs') := by
  induction r with
  | nil => exact r'
  | cons a _ ih => exact .cons a ih
theorem RKV.putMap {K K' : Type} [DecidableEq K] [DecidableEq K'] {f : K' → K} (hf : ∀ a b, f a = f b → a = b) {cvs : List (K × Value)} {kvs : List (K' × AV)} (r : RKV prog w cl f G cvs kvs) {k : K'} {v : Value} {x : AV} (a : RV prog w cl G v x) :
    RKV prog w cl f G (cvs.map fun kv => if kv.1 = f k then (kv.1, v) else kv) (kvs.map fun kv => if kv.1 = k then (kv.1, x) else kv) := by
  induction r with
  | nil => exact .nil
  | @cons k' v' x' vs xs a' r ih =>
    simp only [List.map_cons]
    by_cases h : k' = k
    · subst h; rw [if_pos rfl, if_pos rfl]; exact .cons a ih
    · rw [if_neg h, if_neg (fun e => h (hf _ _ e))]; exact .cons a' ih
theorem RKV.put {K K' : Type} [DecidableEq K] [DecidableEq K'] {f : K' → K} (hf : ∀ a b, f a = f b → a = b) {cvs : List (K × Value)} {kvs : List (K' × AV)} (r : RKV prog w cl f G cvs kvs) {k : K'} {v : Value} {x : AV} (a : RV prog w cl G v x) :
    RKV prog w cl f G (stored cvs (f k) v) (aPut kvs k x) := by
  unfold stored aPut
  rw [r.any hf k]
  split
  · exact r.putMap hf a
  · exact r.append (.cons a .nil)
theorem mem_valueAt {K : Type} [DecidableEq K] (kvs : List (K × Value)) (k : K) : (valueAt kvs k).isSome = decide (k ∈ kvs.map (·.1)) := by
  induction kvs with
  | nil => rfl
  | cons kv r ih =>
    by_cases h : kv.1 = k
    · subst h; simp [valueAt]
    · have h' : ¬ k = kv.1 := fun e => h e.symm
      simp only [valueAt, List.find?_cons, h, decide_false, List.map_cons, List.mem_cons, h', false_or] at ih ⊢
      exact ih

theorem RKT.get {cvs : List (List Int × Addr × Value)} {kvs : List (List Int × AV)} (r : RKT prog w cl G cvs kvs) (k : List Int) :
    (match aGet kvs k with | some x => ∃ p, atKey cvs k = some p ∧ RV prog w cl G p.2 x | none => atKey cvs k = none) := by
  induction r with
  | nil => simp [aGet, atKey]
  | @cons k' _ _ _ v x vs xs _ _ a r ih =>
    by_cases h : k' = k
    · subst h; simp [aGet, atKey, a]
    · simpa [aGet, atKey, h] using ih
theorem RKT.keys {cvs : List (List Int × Addr × Value)} {kvs : List (List Int × AV)} (r : RKT prog w cl G cvs kvs) : cvs.map (·.1) = kvs.map (·.1) := by
  induction r with
  | nil => rfl
  | cons _ _ _ _ ih => simp [ih]
theorem RKT.length {cvs : List (List Int × Addr × Value)} {kvs : List (List Int × AV)} (r : RKT prog w cl G cvs kvs) : cvs.length = kvs.length := by
  induction r with
  | nil => rfl
  | cons _ _ _ _ ih => simp [ih]
theorem RKT.append {cvs cvs' : List (List Int × Addr × Value)} {kvs kvs' : List (List Int × AV)} (r : RKT prog w cl G cvs kvs) (r' : RKT prog w cl G cvs' kvs') : RKT prog w cl G (cvs ++ cvs') (kvs ++ kvs') := by
  induction r with
  | nil => exact r'
  | cons a b c _ ih => exact .cons a b c ih
theorem mem_atKey (cvs : List (List Int × Addr × Value)) (k : List Int) : (atKey cvs k).isSome = decide (k ∈ cvs.map (·.1)) := by
  induction cvs with
  | nil => rfl
  | cons kv r ih =>
    by_cases h : kv.1 = k
    · subst h; simp [atKey]
    · have h' : ¬ k = kv.1 := fun e => h e.symm
      simp only [atKey, List.find?_cons, h, decide_false, List.map_cons, List.mem_cons, h', false_or] at ih ⊢
      exact ih
theorem RKT.putMap {cvs : List (List Int × Addr × Value)} {kvs : List (List Int × AV)} (r : RKT prog w cl G cvs kvs) {k : List Int} {v : Value} {x : AV} (rv : RV prog w cl G v x) :
    RKT prog w cl G (cvs.map (putAt k v)) (kvs.map fun kv => if kv.1 = k then (kv.1, x) else kv) := by
  induction r with
  | nil => exact .nil
  | @cons k' _ _ _ v' x' vs xs g1 g2 a' r ih =>
    simp only [List.map_cons, putAt]
    by_cases h : k' = k
    · subst h; rw [if_pos rfl, if_pos rfl]; exact .cons g1 g2 rv ih
    · rw [if_neg h, if_neg h]; exact .cons g1 g2 a' ih
theorem RKT.put {cvs : List (List Int × Addr × Value)} {kvs : List (List Int × AV)} (r : RKT prog w cl G cvs kvs) {k : List Int} {a m : Nat} {its : Array Value} {v : Value} {x : AV}
    (h1 : G a = some { cls := .type "tuple", data := .seq its m }) (h2 : ItemsAre (intKind prog w) k its.toList) (rv : RV prog w cl G v x) :
    RKT prog w cl G (storedH cvs k a v) (aPut kvs k x) := by
  unfold storedH aPut
  have e : (atKey cvs k).isSome = kvs.any fun kv => decide (kv.1 = k) := by
    rw [mem_atKey, r.keys]
    rw [Bool.eq_iff_iff]
    simp
  rw [e]
  split
  · exact r.putMap rv
  · exact r.append (.cons h1 h2 rv .nil)

theorem dIAt {a : Nat} {kvs : List (Int × AV)} (R : RelH prog w cl P G own hp s.heap) (e : hp a = some (.dI kvs)) :
    ∃ cvs, s.heap.DictOf (intKind prog w) a cvs ∧ RKV prog w cl id G cvs kvs := by
  obtain ⟨⟨o, ho, r⟩, _⟩ := R.ok _ _ e
  cases r with | dI a b => exact ⟨_, Heap.dictOf_iff.mpr ⟨o, ho, a⟩, b⟩
theorem dSAt {a : Nat} {kvs : List (String × AV)} (R : RelH prog w cl P G own hp s.heap) (e : hp a = some (.dS kvs)) :
    ∃ cvs, s.heap.DictOf (strKind prog w) a cvs ∧ RKV prog w cl Str.ofString G cvs kvs := by
  obtain ⟨⟨o, ho, r⟩, _⟩ := R.ok _ _ e
  cases r with | dS a b => exact ⟨_, Heap.dictOf_iff.mpr ⟨o, ho, a⟩, b⟩
theorem RKT.is {cvs : List (List Int × Addr × Value)} {kvs : List (List Int × AV)} {h : Heap} (r : RKT prog w cl G cvs kvs) (k : ∀ a o, G a = some o → h.get? a = some o) : ∀ x ∈ cvs, IsTupleKey (intKind prog w) h x.1 x.2.1 := by
  induction r with
  | nil => intro x hx; cases hx
  | cons g1 g2 _ _ ih =>
    intro x hx
    rcases List.mem_cons.mp hx with rfl | hx
    · exact ⟨_, _, _, k _ _ g1, rfl, rfl, g2⟩
    · exact ih x hx
theorem dTAt {a : Nat} {kvs : List (List Int × AV)} (R : RelH prog w cl P G own hp s.heap) (e : hp a = some (.dT kvs)) :
    ∃ cvs, s.heap.DictOfH (tupleKind (intKind prog w)) a cvs ∧ RKT prog w cl G cvs kvs := by
  obtain ⟨⟨o, ho, r⟩, _⟩ := R.ok _ _ e
  cases r with | dT a b c d e => exact ⟨_, ⟨o, _, _, ho, a, b, c, e.is R.keepG, d⟩, e⟩
theorem fdAt {v : Value} {ks : List Int} (R : RelH prog w cl P G own hp s.heap) (r : RV prog w cl G v (.fd ks)) :
    ∃ a, v = .ref a ∧ a ≠ sysModules ∧ s.heap.DictOf (intKind prog w) a (ks.map fun k => (k, Value.bool true)) := by
  obtain ⟨_, _, rfl, e, d⟩ := r.fd_inv
  exact ⟨_, rfl, R.g_ne_sys e (by obtain ⟨_, _, x, _⟩ := d; exact x.1), Heap.dictOf_iff.mpr ⟨_, R.keepG _ _ e, d⟩⟩
theorem tupAt {v : Value} {xs : List AV} {is : List Int} (R : RelH prog w cl P G own hp s.heap) (r : RV prog w cl G v (.tup xs)) (e : intsOf xs = some is) :
    ∃ a its m, v = .ref a ∧ G a = some { cls := .type "tuple", data := .seq its m } ∧ ItemsAre (intKind prog w) is its.toList ∧ IsTupleKey (intKind prog w) s.heap is a := by
  obtain ⟨_, _, _, rfl, g, r⟩ := r.tup_inv
  exact ⟨_, _, _, rfl, g, r.itemsAre e, _, _, _, R.keepG _ _ g, rfl, rfl, r.itemsAre e⟩

theorem ne_sys {a : Nat} (h : a ≠ sysModules) : (a == sysModules) = false := beq_eq_false_iff_ne.mpr h

theorem snd_in {u v : Value} {x y : AV} {b : Bool} (R : RelH prog w cl P G own hp s.heap) (aok : AOk n A) (ru : RV prog w cl G u x) (rv : RV prog w cl G v y) (hw : hasKey x y hp = some b) :
    (∀ {Q : Value → Shared → Prop}, (∀ t, Q (.bool b) { s with toks := t }) → wpAny (model prog w) A (compareOp .In u v) Q E s) ∧
    (∀ {Q : Value → Shared → Prop}, (∀ t, Q (.bool (!b)) { s with toks := t }) → wpAny (model prog w) A (compareOp .NotIn u v) Q E s) := by
  unfold hasKey at hw
  split at hw
  · cases hw
    obtain ⟨t, rfl⟩ := ru.int_inv
    obtain ⟨a, rfl, ha, hd⟩ := fdAt R rv
    have e : ∀ (ks : List Int) i, (valueAt (ks.map fun k => (k, Value.bool true)) i).isSome = decide (i ∈ ks) := fun ks i => by
      rw [mem_valueAt]; simp [Function.comp_def]
    exact ⟨fun h => wpAny_in_of (intKind_is _ _ _ _) (ne_sys ha) hd.mapOf (by rw [e]; exact h _), fun h => wpAny_notIn_of (intKind_is _ _ _ _) (ne_sys ha) hd.mapOf (by rw [e]; exact h _)⟩
  · split at hw
    · rename_i kvs q
      cases hw
      obtain ⟨t, rfl⟩ := ru.int_inv
      obtain rfl := rv.ref_inv
      obtain ⟨cvs, hd, r⟩ := dIAt R q
      have e : ∀ i, (valueAt cvs i).isSome = decide (i ∈ kvs.map (·.1)) := fun i => by rw [mem_valueAt, r.keys, List.map_id]
      exact ⟨fun h => wpAny_in_of (intKind_is _ _ _ _) (ne_sys (R.hp_ne_sys q)) hd.mapOf (by rw [e]; exact h _), fun h => wpAny_notIn_of (intKind_is _ _ _ _) (ne_sys (R.hp_ne_sys q)) hd.mapOf (by rw [e]; exact h _)⟩
    · cases hw
  · split at hw
    · rename_i kvs ks q1 q2
      cases hw
      obtain rfl := rv.ref_inv
      obtain ⟨c, its, m, rfl, g1, g2, g3⟩ := tupAt R ru q2
      obtain ⟨cvs, hd, r⟩ := dTAt R q1
      have e : ∀ ks, (atKey cvs ks).isSome = decide (ks ∈ kvs.map (·.1)) := fun ks => by rw [mem_atKey, r.keys]
      have hu : (tupleKind (intKind prog w)).room A.in1 := tupleKind_room_in1 (by rw [cLine_is]; have := aok.units; omega)
      exact ⟨fun h => wpAny_in_heap hu g3 (ne_sys (R.hp_ne_sys q1)) hd (by rw [e]; exact h _), fun h => wpAny_notIn_heap hu g3 (ne_sys (R.hp_ne_sys q1)) hd (by rw [e]; exact h _)⟩
    · cases hw
  · cases hw

theorem snd_cmp {op : Cmp} {op' : CmpOp} (ho : op' = cmOf op)
    {u v : Value} {x y : AV} (R : RelH prog w cl P G own hp s.heap) (aok : AOk n A) (ru : RV prog w cl G u x) (rv : RV prog w cl G v y) (hw : wpCmp op x y hp K) (k : ∀ b t, K (.bool b) hp → Q (.bool b) { s with toks := t }) :
    wpAny (model prog w) A (compareOp op' u v) Q E s := by
  subst ho
  cases op with
  | eq =>
    unfold wpCmp at hw
    dsimp only at hw
    split at hw
    · obtain ⟨j, rfl, hk⟩ := onI_inv hw
      obtain ⟨t, rfl⟩ := ru.int_inv
      obtain ⟨t2, rfl⟩ := rv.int_inv
      exact PyProof.Rows.eq_int (by rw [show ∀ a b : Int, (a == b) = decide (a = b) from fun _ _ => rfl]; exact k _ _ hk)
    · obtain ⟨j, rfl, hk⟩ := onS_inv hw
      obtain ⟨t, rfl⟩ := ru.str_inv
      obtain ⟨t2, rfl⟩ := rv.str_inv
      exact PySem.P.eq_str (by rw [str_beq]; exact k _ _ hk)
    · obtain ⟨j, rfl, hk⟩ := onB_inv hw
      obtain rfl := ru.bool_inv
      obtain rfl := rv.bool_inv
      exact PyProof.Rows.eq_bool (by rw [show ∀ a b : Bool, (a == b) = decide (a = b) from fun a b => by cases a <;> cases b <;> rfl]; exact k _ _ hk)
    · exact hw.elim
  | ne =>
    unfold wpCmp at hw
    dsimp only at hw
    split at hw
    · obtain ⟨j, rfl, hk⟩ := onI_inv hw
      obtain ⟨t, rfl⟩ := ru.int_inv
      obtain ⟨t2, rfl⟩ := rv.int_inv
      exact PyProof.Rows.ne_int (by rw [show ∀ a b : Int, (a != b) = decide (a ≠ b) from fun a b => (decide_not (p := a = b)).symm]; exact k _ _ hk)
    · obtain ⟨j, rfl, hk⟩ := onS_inv hw
      obtain ⟨t, rfl⟩ := ru.str_inv
      obtain ⟨t2, rfl⟩ := rv.str_inv
      refine PySem.P.ne_str ?_
      have e : ∀ a b : String, ((Str.ofString a).cps.toList != (Str.ofString b).cps.toList) = decide (a ≠ b) := fun a b => by
        rw [bne, str_beq]; exact (decide_not (p := a = b)).symm
      rw [e]; exact k _ _ hk
    · obtain ⟨xs, ys, is, js, e1, e2, e3, e4, _, hk⟩ := hw
      obtain ⟨a, its, m, rfl, h1, r1⟩ := listAt R ru e1
      obtain ⟨b, its2, m2, rfl, h2, r2⟩ := listAt R rv e2
      refine ne_intsK (vs := its.toList) (us := its2.toList) h1.isList (r1.intsAre e3) h2.isList (r2.intsAre e4) (by rw [cLine_is]; have := aok.units; omega) ?_
      rw [show (!decide (is = js)) = decide (is ≠ js) from (decide_not (p := is = js)).symm]
      exact k _ _ hk
  | lt =>
    obtain ⟨i, rfl, h⟩ := onI_inv hw
    obtain ⟨j, rfl, hk⟩ := onI_inv h
    obtain ⟨t, rfl⟩ := ru.int_inv
    obtain ⟨t2, rfl⟩ := rv.int_inv
    exact PyProof.Rows.lt_int (k _ _ hk)
  | gt =>
    obtain ⟨i, rfl, h⟩ := onI_inv hw
    obtain ⟨j, rfl, hk⟩ := onI_inv h
    obtain ⟨t, rfl⟩ := ru.int_inv
    obtain ⟨t2, rfl⟩ := rv.int_inv
    exact PyProof.Rows.gt_int (k _ _ hk)
  | le =>
    obtain ⟨i, rfl, h⟩ := onI_inv hw
    obtain ⟨j, rfl, hk⟩ := onI_inv h
    obtain ⟨t, rfl⟩ := ru.int_inv
    obtain ⟨t2, rfl⟩ := rv.int_inv
    exact PyProof.Rows.le_int (k _ _ hk)
  | in_ =>
    obtain ⟨b, e, hk⟩ := hw
    exact (snd_in R aok ru rv e).1 fun t => k _ _ hk
  | nin =>
    obtain ⟨b, e, hk⟩ := hw
    exact (snd_in R aok ru rv e).2 fun t => k _ _ hk

end
end Mine
end
section
set_option Elab.async false
set_option maxRecDepth 100000
namespace Mine
open PySem PySem.W PySem.Calls PyProof.Rows

section
variable {prog : Program} {w : World} {cl : String → Nat} {h0 : Heap} {n : Nat} {sc : Scope} {env : Env} {A : Around} {P G G' : Tab} {own : Nat → Prop} {loc : Loc} {hp hp' : HP} {s s' : Shared}
  {Q : Value → Shared → Prop} {E : Value → Shared → Prop} {K : AV → HP → Prop}

theorem seqGet_at {items : Array Value} {xs : List AV} {i : Int} {x : AV} (r : RVs prog w cl G items.toList xs) (e : seqGet xs i = some x) :
    ∃ v, RV prog w cl G v x ∧ ((0 ≤ i ∧ i < items.size ∧ items[i.toNat]? = some v) ∨ (i < 0 ∧ -(items.size : Int) ≤ i ∧ items[(i + items.size).toNat]? = some v)) := by
  unfold seqGet at e
  split at e
  · rename_i h
    obtain ⟨v, hv, rv⟩ := r.get' e
    rw [Array.getElem?_toList] at hv
    refine ⟨v, rv, .inl ⟨h, ?_, hv⟩⟩
    have := (Array.getElem?_eq_some_iff.mp hv).1
    omega
  · split at e
    · rename_i h1 h2
      obtain ⟨v, hv, rv⟩ := r.get' e
      rw [Array.getElem?_toList] at hv
      refine ⟨v, rv, .inr ⟨by exact Int.not_le.mp h1, by rw [r.size]; exact h2, by rw [r.size]; exact hv⟩⟩
    · cases e

theorem getItem_listAt {a m : Nat} {items : Array Value} {xs : List AV} {i : Int} {t : Tok} {x : AV} (h : IsL s.heap a items m) (r : RVs prog w cl G items.toList xs) (e : seqGet xs i = some x) (hs : small i)
    (k : ∀ v, RV prog w cl G v x → Q v s) : wpAny (model prog w) A (getItem (.ref a) (.int i t)) Q E s := by
  obtain ⟨v, rv, c⟩ := seqGet_at r e
  have h63 := small_63 hs
  rcases c with ⟨c1, c2, c3⟩ | ⟨c1, c2, c3⟩
  · exact wpAny_getItem_list h.isList c1 h63.2 c3 (k v rv)
  · exact wpAny_getItem_list_neg h.isList c1 c2 h63.1 c3 (k v rv)

theorem getItem_tupAt {a m : Nat} {items : Array Value} {xs : List AV} {i : Int} {t : Tok} {x : AV} (h : s.heap.get? a = some { cls := .type "tuple", data := .seq items m }) (r : RVs prog w cl G items.toList xs) (e : seqGet xs i = some x) (hs : small i)
    (k : ∀ v, RV prog w cl G v x → Q v s) : wpAny (model prog w) A (getItem (.ref a) (.int i t)) Q E s := by
  obtain ⟨v, rv, c⟩ := seqGet_at r e
  have h63 := small_63 hs
  rcases c with ⟨c1, c2, c3⟩ | ⟨c1, c2, c3⟩
  · exact PySem.P.getItem_tuple h h63.1 h63.2 (PySem.seqIndex_of c1 (by omega)) c3 (k v rv)
  · exact PySem.P.getItem_tuple h h63.1 h63.2 (PySem.seqIndex_neg c1 (by omega)) c3 (k v rv)

theorem snd_idx {value slice : Expr} {u v : Value} {o j x : AV} (R : RelH prog w cl P G own hp s.heap) (aok : AOk n A) (ru : RV prog w cl G u o) (rv : RV prog w cl G v j) (e : idxGet o j hp = some x) (hsm : ∀ i, j = .int i → small i)
    (hs : ∀ a b, subscripted slice false a b = operate [a, b] (getItem a b)) (k : ∀ y t, RV prog w cl G y x → Q y { s with toks := t }) :
    wpAny (model prog w) A (subscriptTail value slice u v) Q E s := by
  unfold idxGet at e
  split at e
  · obtain ⟨t, rfl⟩ := rv.int_inv
    obtain ⟨_, _, _, rfl, g, r⟩ := ru.fl_inv
    exact tail_any (T := "list") ⟨_, R.keepG _ _ g, rfl⟩ slot_list_getitem.lookup (getItem_listAt (R.keepG _ _ g) r e (hsm _ rfl) fun v q => k v s.toks q) (hs _ _)
  · obtain ⟨t, rfl⟩ := rv.int_inv
    obtain ⟨_, _, _, rfl, g, r⟩ := ru.tup_inv
    exact tail_any (T := "tuple") ⟨_, R.keepG _ _ g, rfl⟩ PySem.F.slot_tuple_getitem.lookup (getItem_tupAt (R.keepG _ _ g) r e (hsm _ rfl) fun v q => k v s.toks q) (hs _ _)
  · obtain rfl := ru.ref_inv
    obtain ⟨t, rfl⟩ := rv.int_inv
    split at e
    · rename_i q
      obtain ⟨_, _, ho, r⟩ := lsAt R q
      exact tail_any (T := "list") ⟨_, ho, rfl⟩ slot_list_getitem.lookup (getItem_listAt ho r e (hsm _ rfl) fun v q => k v s.toks q) (hs _ _)
    · rename_i q
      obtain ⟨cvs, hd, r⟩ := dIAt R q
      have g := r.get (fun _ _ e => e) (by assumption)
      rw [e] at g
      obtain ⟨y, hy, ry⟩ := g
      exact tail_any (T := "dict") hd.typeIs slot_dict_getitem.lookup (wpAny_getItem_of (intKind_is _ _ _ _) hd.mapOf hy (k y _ ry)) (hs _ _)
    · cases e
  · obtain rfl := ru.ref_inv
    obtain ⟨t, rfl⟩ := rv.str_inv
    split at e
    · rename_i q
      obtain ⟨cvs, hd, r⟩ := dSAt R q
      have g := r.get (fun _ _ e => ofString_inj e) (by assumption)
      rw [e] at g
      obtain ⟨y, hy, ry⟩ := g
      exact tail_any (T := "dict") hd.typeIs slot_dict_getitem.lookup (wpAny_getItem_of (strKind_is _ _ _ _) hd.mapOf hy (k y _ ry)) (hs _ _)
    · cases e
  · obtain rfl := ru.ref_inv
    split at e
    · rename_i kvs ks q1 q2
      obtain ⟨c, its, m, rfl, g1, g2, g3⟩ := tupAt R rv q2
      obtain ⟨cvs, hd, r⟩ := dTAt R q1
      have g := r.get ks
      rw [e] at g
      obtain ⟨y, hy, ry⟩ := g
      have hu : (tupleKind (intKind prog w)).room A.in1 := tupleKind_room_in1 (by rw [cLine_is]; have := aok.units; omega)
      exact tail_any (T := "dict") hd.typeIs slot_dict_getitem.lookup (wpAny_getItem_heap hu g3 hd hy (k y.2 _ ry)) (hs _ _)
    · cases e
  · cases e

end
end Mine
end
section
set_option Elab.async false
set_option maxRecDepth 100000
namespace Mine
open PySem PySem.W PySem.Calls PyProof.Rows

noncomputable def biVal : Bi → Value
  | .abs => .builtin "abs" | .len => .builtin "len" | .sorted => .builtin "sorted" | .sum => .builtin "sum"
  | .tuple => .type "tuple" | .dict => .type "dict" | .range => .type "range"

theorem preSum_ints : ∀ (is : List Int) (f : Nat → Int), (∀ i, i < is.length → f i = (is[i]?).getD 0) → preSum f is.length = is.sum
  | [], _, _ => rfl
  | x :: r, f, h => by
    show preSum f (r.length + 1) = _
    rw [kdu_shift, h 0 (by simp), preSum_ints r (fun i => f (i + 1)) (fun i hi => by rw [h (i + 1) (by simpa using hi)]; simp)]
    simp

section
variable {prog : Program} {w : World} {cl : String → Nat} {h0 : Heap} {n : Nat} {sc : Scope} {env : Env} {A : Around} {P G G' : Tab} {own : Nat → Prop} {loc : Loc} {hp hp' : HP} {s s' : Shared}
  {Q : Value → Shared → Prop} {E : Value → Shared → Prop} {K : AV → HP → Prop}

theorem RVs.one {vs : List Value} {x : AV} (r : RVs prog w cl G vs [x]) : ∃ v, vs = [v] ∧ RV prog w cl G v x := by
  cases r with | cons a r => cases r; exact ⟨_, rfl, a⟩
theorem RVs.two {vs : List Value} {x y : AV} (r : RVs prog w cl G vs [x, y]) : ∃ v u, vs = [v, u] ∧ RV prog w cl G v x ∧ RV prog w cl G u y := by
  cases r with | cons a r => obtain ⟨v, rfl, b⟩ := r.one; exact ⟨_, _, rfl, a, b⟩

theorem RKV.trues : ∀ ks : List Int, RKV prog w cl id G (ks.map fun k => (k, Value.bool true)) (ks.map fun k => (k, AV.bool true))
  | [] => .nil
  | k :: r => .cons (k := k) (.bool true) (RKV.trues r)
theorem call_sorted_dict {d : Nat} {cvs : List (Int × Value)} (lo : (d == sysModules) = false) (hh : A.handled = none) (hd : s.heap.DictOf (intKind prog w) d cvs) (h64 : cvs.length < 64)
    (h : ∀ h' tk a its m is, (∀ b o, s.heap.get? b = some o → h'.get? b = some o) → s.heap.get? a = none → h'.get? a = some { cls := .type "list", data := .seq its m } → IntsAre its.toList is → is.Perm (cvs.map (·.1)) → is.Pairwise (· ≤ ·) →
      Q (.ref a) { s with heap := h', toks := tk }) :
    wpAny (model prog w) A (call (.builtin "sorted") [.ref d]) Q E s := by
  obtain ⟨ep, hat⟩ := hd.dictAt
  refine call_function_entry kind_sorted plain_sorted entry_sorted (args_sorted1 _) ?_
  unfold Builtin.«sorted»
  refine wpAny_bind (m := checkCount "sorted" 1 1 _) (wpAny_pure ?_)
  refine wpAny_bind (kdu_collect (A := A.in1) (kdl_dict (knd := intKind prog w) (kvs := cvs) (ep := ep) lo) hh hat (by rw [sizeLine_eq]; exact Nat.le_trans (Nat.le_of_lt h64) (Nat.le_add_left _ _)) fun h' tk acc hk hacc => ?_)
  have hl : acc.toList.length = cvs.length := by rw [Array.length_toList]; exact hacc.1
  have hI : IntsAre acc.toList (cvs.map (·.1)) := by
    have gen : ∀ (l : List Value) (kv : List (Int × Value)), l.length = kv.length → (∀ (j : Nat) (v : Value), l[j]? = some v → ∃ k x, kv[j]? = some (k, x) ∧ (intKind prog w).is k v = true) → IntsAre l (kv.map (·.1)) := by
      intro l
      induction l with
      | nil => intro kv e _; cases kv with | nil => exact .nil | cons _ _ => cases e
      | cons v l ih =>
        intro kv e hj
        cases kv with
        | nil => cases e
        | cons q kv =>
          obtain ⟨k, x, e1, e2⟩ := hj 0 v (by simp)
          simp at e1
          obtain ⟨t, rfl⟩ := Value.isInt_shape e2
          subst e1
          exact .cons _ _ (ih kv (by simpa using e) fun j v hv => hj (j + 1) v (by simpa using hv))
    exact gen _ _ hl fun j v e => hacc.2 j v (by rw [← Array.getElem?_toList]; exact e)
  refine wpAny_bind (wpAny_newList ?_ (by rw [hl, sizeLine_eq]; exact Nat.le_trans (Nat.le_of_lt h64) (Nat.le_add_left _ _)))
  have hoL : (h'.push (seqObj "list" acc.toList.toArray 0)).get? h'.objs.size = some (seqObj "list" acc.toList.toArray 0) := Heap.get?_push_size _ rfl
  refine wpAny_bind (wpAny_holding (wpAny_call_entry slot_list_sort ⟨_, hoL, rfl⟩ entry_list_sort (list_sort_tree hoL hI (by rw [hl]; exact h64) fun out ns' a1 a2 a3 => ⟨_, rfl, ?_⟩) (args_list_sort _)))
  refine wpAny_pure ⟨_, rfl, ?_⟩
  obtain ⟨e, he⟩ := sortedHeap_at (vs := acc.toList) (out := out) hoL
  have hsz : s.heap.get? h'.objs.size = none := by
    cases q : s.heap.get? h'.objs.size with
    | none => rfl
    | some o => exact absurd (Heap.lt_size (hk _ _ q)) (Nat.lt_irrefl _)
  exact h _ tk h'.objs.size out e ns' (fun b o q => by
      have hb := Heap.lt_size (hk b o q)
      rw [sortedHeap_old (Nat.ne_of_lt hb) (by rw [size_push']; exact Nat.lt_succ_of_lt hb)]
      exact Heap.get?_push_of_some _ (hk b o q)) hsz he a1 a2 a3

theorem intsOf_at {x : AV} : ∀ {l : List AV} {js : List Int} {i : Nat}, intsOf l = some js → l[i]? = some x → ∃ z, x = .int z ∧ js[i]? = some z
  | [], _, _, _, h => nomatch h
  | y :: l, js, 0, h, hx => by
    obtain ⟨z, js', rfl, h', rfl⟩ := intsOf_inv h
    cases hx; exact ⟨_, rfl, rfl⟩
  | y :: l, js, i + 1, h, hx => by
    obtain ⟨z, js', rfl, h', rfl⟩ := intsOf_inv h
    exact intsOf_at (l := l) (i := i) h' hx
theorem snd_bi {b : Bi} {vs : List Value} {xs : List AV} (R : RelH prog w cl P G own hp s.heap) (aok : AOk n A) (rs : RVs prog w cl G vs xs) (hw : wpBi b xs hp K) (k : Kont prog w cl P G own s K Q) :
    wpAny (model prog w) A (call (biVal b) vs) Q E s := by
  cases b with
  | abs =>
    obtain ⟨x, rfl, hw⟩ := on1_inv hw
    obtain ⟨i, rfl, hw⟩ := onI_inv hw
    obtain ⟨v, rfl, r⟩ := rs.one
    obtain ⟨t, rfl⟩ := r.int_inv
    refine call_abs_int fun u tk => ?_
    rw [show (if i < 0 then -i else i) = (i.natAbs : Int) from by split <;> omega]
    exact k _ _ _ _ _ hw (.int _ _) (Post.tok R _)
  | len =>
    obtain ⟨x, rfl, m, e, hm, hk⟩ := on1_inv hw
    obtain ⟨v, rfl, r⟩ := rs.one
    have hfit : ∀ j : Nat, j = m → (j : Int) < 2 ^ 63 := fun j e => by subst e; unfold SZ at hm; exact Int.lt_of_le_of_lt (Int.ofNat_le.mpr hm) (by decide)
    unfold lenOf at e
    split at e
    · cases e
      obtain ⟨_, _, _, rfl, g, r⟩ := r.fl_inv
      exact call_len_list (IsL.isList (R.keepG _ _ g)) (hfit _ r.size) (by rw [r.size]; exact k _ _ _ _ _ hk (.int _ _) (Post.tok R _))
    · cases e
      obtain ⟨_, _, _, rfl, g, r⟩ := r.tup_inv
      exact PySem.P.len_tuple (R.keepG _ _ g) (by have := hfit _ r.size; omega) (by rw [r.size]; exact k _ _ _ _ _ hk (.int _ _) (Post.tok R _))
    · cases e
      obtain ⟨a, rfl, ha, hd⟩ := fdAt R r
      exact call_len_dict (ne_sys ha) hd (by rw [List.length_map]; exact hfit _ rfl) (by rw [List.length_map]; exact k _ _ _ _ _ hk (.int _ _) (Post.tok R _))
    · obtain rfl := r.ref_inv
      split at e
      · rename_i q
        cases e
        obtain ⟨_, _, ho, r⟩ := lsAt R q
        exact call_len_list (IsL.isList ho) (hfit _ r.size) (by rw [r.size]; exact k _ _ _ _ _ hk (.int _ _) (Post.tok R _))
      · rename_i q
        cases e
        obtain ⟨cvs, hd, r⟩ := dIAt R q
        exact call_len_dict (ne_sys (R.hp_ne_sys q)) hd (hfit _ r.length) (by rw [r.length]; exact k _ _ _ _ _ hk (.int _ _) (Post.tok R _))
      · cases e
    · cases e
  | sorted =>
    obtain ⟨x, rfl, is, e, h64, hk⟩ := on1_inv hw
    obtain ⟨v, rfl, r⟩ := rs.one
    unfold keysOf at e
    split at e
    · obtain rfl := r.ref_inv
      split at e
      · rename_i q
        cases e
        obtain ⟨cvs, hd, r⟩ := dIAt R q
        have ek := r.keys
        rw [List.map_id] at ek
        refine call_sorted_dict (ne_sys (R.hp_ne_sys q)) aok.handled hd (by rw [r.length]; simpa using h64) fun h' tk a its m is hk' ha ho hi hp hs => ?_
        have p := Post.newG (t := tk) R hk' ha ho
        exact k _ _ _ _ _ (hk is (by rw [← ek]; exact hp) hs) (.fl Tab.set_self (RVs.ofInts hi)) p
      · cases e
    · cases e
  | sum =>
    obtain ⟨x, rfl, xs, is, e, ei, hk⟩ := on1_inv hw
    obtain ⟨v, rfl, r⟩ := rs.one
    obtain ⟨a, its, m, rfl, h1, r1⟩ := listAt R r e
    have hi := r1.intsAre ei
    refine call_sum_walkAnyS ?_
    refine wpAny_pyIter_list h1.isList ⟨s.heap.objs.size, _, _, _, its.size, fun i v => its[i]? = some v, _, fun i => (is[i]?).getD 0, rfl, (Walks.list (A := A.in1) aok.handled s.heap.objs.size a (fun e => by have := Heap.lt_size h1; rw [e] at this; exact Nat.lt_irrefl _ this) its).toS, ?_, ?_, ?_, ?_⟩
    · exact ⟨⟨_, Heap.get?_push_size _ rfl, rfl, rfl⟩, h1.isList.push _⟩
    · intro b hb
      show b < (s.heap.push _).objs.size
      rw [size_push']
      rcases List.mem_cons.mp hb with e | hb
      · rw [e]; exact Nat.lt_succ_self _
      · rw [List.mem_singleton.mp hb]; exact Nat.lt_succ_of_lt (Heap.lt_size h1)
    · intro i v hv
      rw [← Array.getElem?_toList] at hv
      obtain ⟨x, hx, rx⟩ := r1.get hv
      obtain ⟨z, rfl, hz⟩ := intsOf_at ei hx
      cases rx with | int _ t => exact ⟨t, by show Value.int z t = Value.int ((is[i]?).getD 0) t; rw [hz]; rfl⟩
    · intro s' t' hm
      have hk' : ∀ b o, s.heap.get? b = some o → s'.heap.get? b = some o := fun b o e =>
        hm.heap b o (fun hI => absurd (Heap.lt_size e) (by rw [List.mem_singleton.mp hI]; exact Nat.lt_irrefl _)) (Heap.get?_push_of_some _ e)
      rw [Moved.eq_with hm]
      have es : preSum (fun i => (is[i]?).getD 0) its.size = is.sum := by
        rw [show its.size = is.length from by rw [← hi.length]; simp]
        exact preSum_ints is _ fun _ _ => rfl
      rw [es]
      exact k _ _ _ _ _ hk (.int _ _) (Post.growTo R hk')
  | tuple =>
    obtain ⟨x, rfl, xs, e, hsz, hk⟩ := on1_inv hw
    obtain ⟨v, rfl, r⟩ := rs.one
    obtain ⟨a, its, m, rfl, h1, r1⟩ := listAt R r e
    refine call_tuple_list h1.isList (fun h' hk' => ?_) (by rw [r1.size]; exact sz_line hsz)
    have p := Post.newG (t := s.toks) (a := h'.objs.size) (o := { cls := .type "tuple", data := .seq its }) R (fun b o e => Heap.get?_push_of_some _ (hk' b o e)) (by
      cases q : s.heap.get? h'.objs.size with
      | none => rfl
      | some o => exact absurd (Heap.lt_size (hk' _ _ q)) (Nat.lt_irrefl _)) (Heap.get?_push_size h' rfl)
    exact k _ _ _ _ _ hk (.tup Tab.set_self (r1.mono p.ext)) p
  | dict =>
    obtain ⟨x, rfl, hw⟩ := on1_inv hw
    obtain ⟨ks, rfl, hsz, hk⟩ := onD_inv hw
    obtain ⟨v, rfl, r⟩ := rs.one
    obtain ⟨a, rfl, ha, hd⟩ := fdAt R r
    refine kt_call_dict (ne_sys ha) hd (by rw [List.length_map]; exact sz_line hsz) fun h' hd' hs => ?_
    obtain ⟨o, ho, hdo⟩ := Heap.dictOf_iff.mp hd'
    have hn : s.heap.get? s.heap.objs.size = none := none_of_size (Nat.le_refl _)
    refine k _ _ _ _ _ (hk s.heap.objs.size (R.freshH hn)) (.ref _) (Post.newH (t := s.toks) R (fun b o e => hs.extBut b o (fun q => by rw [q, hn] at e; cases e) (Heap.get?_push_of_some _ e)) hn ho (.dI hdo (RKV.trues _)) (fun q => absurd q (R.ne_size 0)))
  | range =>
    unfold wpBi at hw
    dsimp only at hw
    split at hw
    · obtain ⟨i, rfl, hs, hk⟩ := onI_inv hw
      obtain ⟨v, rfl, r⟩ := rs.one
      obtain ⟨t, rfl⟩ := r.int_inv
      refine call_range_1 ?_
      have p := Post.newG (t := s.toks + 1 + 1) R (fun b o => Heap.get?_push_of_some ({ cls := .type "range", data := .fields #[.int 0 s.toks, .int i t, .int 1 (s.toks + 1)] } : Obj)) (none_of_size (Nat.le_refl _)) (Heap.get?_push_size s.heap rfl)
      exact k _ _ _ _ _ hk (.rng Tab.set_self (by unfold small; exact by decide) hs) p
    · obtain ⟨x, y, rfl, hw⟩ := on2_inv hw
      obtain ⟨i, rfl, hw⟩ := onI_inv hw
      obtain ⟨i2, rfl, hs, hs2, hk⟩ := onI_inv hw
      obtain ⟨v, v2, rfl, r, r2⟩ := rs.two
      obtain ⟨t, rfl⟩ := r.int_inv
      obtain ⟨t2, rfl⟩ := r2.int_inv
      refine call_range_2 ?_
      have p := Post.newG (t := s.toks + 1) R (fun b o => Heap.get?_push_of_some ({ cls := .type "range", data := .fields #[.int i t, .int i2 t2, .int 1 s.toks] } : Obj)) (none_of_size (Nat.le_refl _)) (Heap.get?_push_size s.heap rfl)
      exact k _ _ _ _ _ hk (.rng Tab.set_self hs hs2) p

end
end Mine
end
section
set_option Elab.async false
set_option maxRecDepth 100000
namespace Mine
open PySem PySem.W PySem.Calls PyProof.Rows PySem.MeetsSeq

noncomputable def lmT : LM → String
  | .append => "list" | .extend => "list" | .pop => "list" | .count => "list" | .get => "dict" | .update => "dict"
noncomputable def lmName : LM → String
  | .append => "append" | .extend => "extend" | .pop => "pop" | .count => "count" | .get => "get" | .update => "update"
noncomputable def lmId : LM → String
  | .append => "list.append" | .extend => "list.extend" | .pop => "list.pop" | .count => "list.count" | .get => "dict.get" | .update => "dict.update"

section
variable {prog : Program} {w : World} {cl : String → Nat} {h0 : Heap} {n : Nat} {sc : Scope} {env : Env} {A : Around} {P G G' : Tab} {own : Nat → Prop} {loc : Loc} {hp hp' : HP} {s s' : Shared}
  {Q : Value → Shared → Prop} {E : Value → Shared → Prop} {K : AV → HP → Prop}

theorem eqBool_bool {a b : Bool} {Q : Bool → Shared → Prop} (h : Q (a == b) s) : wpAny (model prog w) A (eqBool (.bool a) (.bool b)) Q E s := by
  unfold eqBool
  try with_reducible refine wpAny_holding ?_
  by_cases hab : (Value.bool a == Value.bool b) = true
  · rw [if_pos hab]
    have e : a = b := by have := eq_of_beq hab; injection this
    subst e
    exact wpAny_bind (wpAny_rule (wpAny_pure (by simpa using h)))
  · rw [if_neg hab]
    exact wpAny_bind (PyProof.Rows.eq_bool (wpAny_truthy_bool h))
theorem EqGives.bool (a b : Bool) : EqGives (.bool a) (.bool b) (a == b) := fun _ _ _ _ _ _ h => eqBool_bool h

noncomputable def boolOf : Value → Bool
  | .bool b => b
  | _ => false

theorem RVs.bools {vs : List Value} {xs : List AV} {bs : List Bool} (r : RVs prog w cl G vs xs) (h : boolsOf xs = some bs) : vs = bs.map .bool := by
  induction vs generalizing xs bs with
  | nil => cases r; cases h; rfl
  | cons v vs ih =>
    cases r with
    | cons a r =>
      rename_i x xs
      cases x <;> simp only [boolsOf, reduceCtorEq] at h
      obtain ⟨is', h', rfl⟩ := Option.map_eq_some_iff.mp h
      cases a
      rw [List.map_cons, ih r h']

theorem RVs.eraseLast {items : Array Value} {xs : List AV} {x : AV} (r : RVs prog w cl G items.toList (xs ++ [x])) :
    ∃ v, items[items.size - 1]? = some v ∧ RV prog w cl G v x ∧ RVs prog w cl G (items.eraseIdxIfInBounds (items.size - 1)).toList xs := by
  obtain ⟨l⟩ := items
  have gen : ∀ (l : List Value) (xs : List AV), RVs prog w cl G l (xs ++ [x]) → ∃ l' v, l = l' ++ [v] ∧ RV prog w cl G v x ∧ RVs prog w cl G l' xs := by
    intro l
    induction l with
    | nil => intro xs r; cases xs <;> cases r
    | cons u l ih =>
      intro xs r
      cases xs with
      | nil => cases r with | cons a r => cases r; exact ⟨[], _, rfl, a, .nil⟩
      | cons y ys => cases r with | cons a r => obtain ⟨l', v, rfl, b, c⟩ := ih ys r; exact ⟨u :: l', v, rfl, b, .cons a c⟩
  obtain ⟨l', v, rfl, a, b⟩ := gen l xs r
  refine ⟨v, by simp, a, ?_⟩
  have : ((l' ++ [v]).toArray.eraseIdxIfInBounds ((l' ++ [v]).toArray.size - 1)).toList = l' := by
    simp [List.eraseIdx_eq_take_drop_succ]
  rw [this]; exact b

theorem snd_lm {m : LM} {u : Value} {vs : List Value} {x : AV} {xs : List AV} (R : RelH prog w cl P G own hp s.heap) (aok : AOk n A) (ru : RV prog w cl G u x) (rs : RVs prog w cl G vs xs) (hw : wpLm x m xs hp K) (k : Kont prog w cl P G own s K Q) :
    wpAny (model prog w) A (call (.builtin (lmId m)) (u :: vs)) Q E s := by
  cases m with
  | append =>
    obtain ⟨a, rfl, hw⟩ := onR_inv hw
    obtain ⟨y, rfl, ys, e, hsz, hk⟩ := on1_inv hw
    obtain ⟨v, rfl, r⟩ := rs.one
    obtain rfl := ru.ref_inv
    obtain ⟨items, m, ho, ro⟩ := lsAt R e
    refine call_meets PySem.F.slot_list_append ⟨_, ho, rfl⟩ PySem.F.entry_list_append (PySem.F.args_list_append_2 _ _) (list_append _ items m v (by rw [ro.size]; exact sz_line hsz)) ⟨ho, ?_⟩
    have h2 := IsL.update ho (fun x => x.push v)
    exact k _ _ _ _ _ hk .none (Post.upd (t := s.toks) R e (fun b hb => Heap.get?_update_other _ _ (fun q => hb q.symm)) h2 (.list (by rw [Array.toList_push]; exact ro.append (.cons r .nil))))
  | extend =>
    obtain ⟨a, rfl, hw⟩ := onR_inv hw
    obtain ⟨y, rfl, hw⟩ := on1_inv hw
    obtain ⟨zs, rfl, ys, e, hsz, hk⟩ := onL_inv hw
    obtain ⟨v, rfl, r⟩ := rs.one
    obtain rfl := ru.ref_inv
    obtain ⟨items, m, ho, ro⟩ := lsAt R e
    obtain ⟨b, items2, m2, rfl, g, r2⟩ := r.fl_inv
    have h64 := sz_line hsz
    refine call_meets PySem.F.slot_list_extend ⟨_, ho, rfl⟩ PySem.F.entry_list_extend (PySem.F.args_list_extend_2 _ _) (AutoSeq1.list_extend_list_list_0 _ items m b items2 m2 (by
        have : Builtin.List.listTooLong (items.size + items2.size) = false := by unfold Builtin.List.listTooLong; rw [ro.size, r2.size]; exact decide_eq_false (by exact Nat.not_lt_of_le h64)
        rw [this]; simp) (by rw [ro.size]; exact Nat.le_trans (Nat.le_add_right _ _) h64) (by rw [ro.size, r2.size]; exact Nat.le_succ_of_le h64)) ⟨ho, R.keepG _ _ g, ?_⟩
    have h2 := IsL.update ho (fun x => x ++ items2)
    exact k _ _ _ _ _ hk .none (Post.upd (t := s.toks) R e (fun b hb => Heap.get?_update_other _ _ (fun q => hb q.symm)) h2 (.list (by rw [Array.toList_append]; exact ro.append r2)))
  | pop =>
    obtain ⟨a, rfl, hw⟩ := onR_inv hw
    obtain ⟨rfl, ys, y, e, hsz, hk⟩ := on0_inv hw
    cases rs
    obtain rfl := ru.ref_inv
    obtain ⟨items, m, ho, ro⟩ := lsAt R e
    obtain ⟨v, hv, rv, rr⟩ := ro.eraseLast
    have hs := ro.size
    rw [List.length_append, List.length_singleton] at hs
    refine call_meets PySem.F.slot_list_pop ⟨_, ho, rfl⟩ PySem.F.entry_list_pop (PySem.F.args_list_pop_1 _) (MeetsSeq.list_pop_last _ items m v hv (by rw [hs, sizeLine_eq]; unfold SZ at hsz; exact Nat.lt_of_le_of_lt hsz (by decide))) ⟨ho, ?_⟩
    have h2 := IsL.update ho (fun x => x.eraseIdxIfInBounds (items.size - 1))
    exact k _ _ _ _ _ hk rv (Post.upd (t := s.toks) R e (fun b hb => Heap.get?_update_other _ _ (fun q => hb q.symm)) h2 (.list rr))
  | count =>
    obtain ⟨a, rfl, hw⟩ := onL_inv hw
    obtain ⟨y, rfl, hw⟩ := on1_inv hw
    obtain ⟨b, rfl, bs, e, hsz, hk⟩ := onB_inv hw
    obtain ⟨v, rfl, r⟩ := rs.one
    obtain rfl := r.bool_inv
    obtain ⟨a, items, m, rfl, g, ro⟩ := ru.fl_inv
    have hb := ro.bools e
    refine call_meets PySem.F.slot_list_count ⟨_, R.keepG _ _ g, rfl⟩ PySem.F.entry_list_count (PySem.F.args_list_count_2 _ _) (MeetsSeq.list_count a items m (.bool b) (fun y => boolOf y == b) (fun y hy => by
        have hy' : y ∈ items.toList := Array.mem_toList_iff.mpr hy
        rw [hb] at hy'
        obtain ⟨c, _, rfl⟩ := List.mem_map.mp hy'
        exact EqGives.bool c b)) ⟨R.keepG _ _ g, ?_⟩
    rw [hb]
    have : (bs.map Value.bool).countP (fun y => boolOf y == b) = bs.count b := by
      rw [List.countP_map]; rfl
    rw [this]
    exact k _ _ _ _ _ hk (.int _ _) (Post.tok R _)
  | get =>
    obtain ⟨a, rfl, hw⟩ := onR_inv hw
    obtain ⟨y, dd, rfl, hw⟩ := on2_inv hw
    obtain ⟨kk, rfl, kvs, e, hk⟩ := onI_inv hw
    obtain ⟨v, v2, rfl, r, r2⟩ := rs.two
    obtain ⟨t, rfl⟩ := r.int_inv
    obtain rfl := ru.ref_inv
    obtain ⟨cvs, hd, rk⟩ := dIAt R e
    refine call_meetsIn PySem.F.slot_dict_get hd.typeIs PySem.F.entry_dict_get (PySem.F.args_dict_get_3 _ _ _) (meets_dict_get_default (intKind prog w) _ (intKind_is _ _ _ _) (ne_sys (R.hp_ne_sys e)) v2) ⟨_, hd.mapOf, ?_⟩
    have g := rk.get (fun _ _ e => e) kk
    cases q : aGet kvs kk with
    | none =>
      rw [q] at g hk
      rw [show valueAt cvs kk = none from g]
      exact k _ _ _ _ _ hk r2 (Post.tok R _)
    | some y =>
      rw [q] at g hk
      obtain ⟨z, hz, rz⟩ := g
      rw [show valueAt cvs kk = some z from hz]
      exact k _ _ _ _ _ hk rz (Post.tok R _)
  | update =>
    obtain ⟨a, rfl, hw⟩ := onR_inv hw
    obtain ⟨y, rfl, hw⟩ := on1_inv hw
    obtain ⟨ks, rfl, kvs, e, hsz, hk⟩ := onD_inv hw
    obtain ⟨v, rfl, r⟩ := rs.one
    obtain rfl := ru.ref_inv
    obtain ⟨cvs, hd, rk⟩ := dIAt R e
    obtain ⟨b, o, rfl, g, od⟩ := r.fd_inv
    have hne : a ≠ b := fun q => by have := (R.ok _ _ e).2.2.1; rw [q, g] at this; cases this
    have hdb : s.heap.DictOf (intKind prog w) b (ks.map fun k => (k, Value.bool true)) := Heap.dictOf_iff.mpr ⟨_, R.keepG _ _ g, od⟩
    refine call_meetsIn PySem.F.slot_dict_update hd.typeIs PySem.F.entry_dict_update (PySem.F.args_dict_update_2 _ _) (meets_dict_update (intKind prog w) a b hne (ne_sys (R.g_ne_sys g (by obtain ⟨_, _, x, _⟩ := od; exact x.1)))) ⟨_, _, hd, hdb, by rw [rk.length, List.length_map]; exact sz_line hsz, fun h' hd' _ hs => ?_⟩
    obtain ⟨o', ho', hdo⟩ := Heap.dictOf_iff.mp hd'
    refine k _ _ _ _ _ hk .none (Post.upd (t := s.toks) R e (fun b hb => hs.2 b hb) ho' (.dI hdo ?_))
    have gen : ∀ (ks : List Int) (cvs : List (Int × Value)) (kvs : List (Int × AV)), RKV prog w cl id G cvs kvs → RKV prog w cl id G (merged cvs (ks.map fun k => (k, Value.bool true))) (aMerge kvs (ks.map fun k => (k, AV.bool true))) := by
      intro ks
      induction ks with
      | nil => intro cvs kvs r; exact r
      | cons k ks ih => intro cvs kvs r; exact ih _ _ (RKV.put (f := id) (fun _ _ e => e) r (.bool true))
    exact gen ks cvs kvs rk

end
end Mine
end
section
set_option Elab.async false
set_option maxRecDepth 100000
namespace Mine
open PySem PySem.W PySem.Calls PyProof.Rows

structure ClsOk (K : Frag) (C : Addr) : Prop where
  ga : findIn K (.ref C) "__getattribute__" = some (some (.builtin "object.__getattribute__"))
  gt : findIn K (.ref C) "__getattr__" = some none
  hasD : hasDictIn K C = true
  sa : findIn K (.ref C) "__setattr__" = some (some (.builtin "object.__setattr__"))
  plain : plainOver K C = true
  attr : ∀ a ∈ attrNames, findIn K (.ref C) (Str.ofString a) = some none
  makes : makesIn K C = true

section
variable {prog : Program} {w : World} {cl : String → Nat} {h0 : Heap} {n : Nat} {sc : Scope} {env : Env} {A : Around} {P G G' : Tab} {own : Nat → Prop} {loc : Loc} {hp hp' : HP} {s s' : Shared}
  {Q : Value → Shared → Prop} {E : Value → Shared → Prop} {K : AV → HP → Prop} {F : Frag}

theorem RV.handed {v : Value} {x : AV} (r : RV prog w cl G v x) : handedIn v = true := by cases r <;> rfl

theorem isStr_key {a b : String} {t : Tok} : (Value.str (Str.ofString a) t).isStr (Str.ofString b) = decide (a = b) := by
  show (Str.ofString a == Str.ofString b) = _
  by_cases h : a = b
  · subst h; simp
  · rw [decide_eq_false h]; exact beq_eq_false_iff_ne.mpr fun e => h (ofString_inj e)

theorem AR.noRef {es : List DictEntry} {at_ : List (String × AV)} (r : AR prog w cl G es at_) : es.any (·.refKey) = false := by
  induction es generalizing at_ with
  | nil => rfl
  | cons e es ih => cases r with | cons a r => rw [List.any_cons, ih r]; rfl
theorem AR.length {es : List DictEntry} {at_ : List (String × AV)} (r : AR prog w cl G es at_) : es.length = at_.length := by
  induction es generalizing at_ with
  | nil => cases r; rfl
  | cons e es ih => cases r with | cons a r => simp [ih r]
theorem AR.get {es : List DictEntry} {at_ : List (String × AV)} (r : AR prog w cl G es at_) (m : String) :
    (match aGet at_ m with | some x => ∃ v, getL (Str.ofString m) es = some (some v) ∧ RV prog w cl G v x | none => getL (Str.ofString m) es = some none) := by
  have hn := r.noRef
  have main : (match aGet at_ m with | some x => ∃ e, es.find? (·.key.isStr (Str.ofString m)) = some e ∧ RV prog w cl G e.val x | none => es.find? (·.key.isStr (Str.ofString m)) = none) := by
    clear hn
    induction es generalizing at_ with
    | nil => cases r; rfl
    | cons e es ih =>
      cases r with
      | @cons hsh t v nm x _ at_ a r =>
      have ih := ih r
      rw [List.find?_cons, isStr_key]
      by_cases h : nm = m
      · subst h; simp [aGet, a]
      · simpa [aGet, h] using ih
  unfold getL
  cases q : aGet at_ m with
  | none => rw [q] at main; rw [show List.find? _ es = none from main]; simp [hn]
  | some x => rw [q] at main; obtain ⟨e, h1, h2⟩ := main; rw [h1]; exact ⟨_, rfl, h2⟩

theorem AR.append {es es' : List DictEntry} {at_ at' : List (String × AV)} (r : AR prog w cl G es at_) (r' : AR prog w cl G es' at') : AR prog w cl G (es ++ es') (at_ ++ at') := by
  induction es generalizing at_ with
  | nil => cases r; exact r'
  | cons e es ih => cases r with | cons a r => exact .cons a (ih r)

theorem aPut_cons_ne {k m : String} {x y : AV} {r : List (String × AV)} (h : k ≠ m) : aPut ((k, y) :: r) m x = (k, y) :: aPut r m x := by
  unfold aPut
  simp only [List.any_cons, decide_eq_false h, Bool.false_or, List.map_cons, if_neg h]
  split <;> simp
theorem map_same {m : String} {x : AV} : ∀ {r : List (String × AV)}, m ∉ r.map (·.1) → (r.map fun kv => if kv.1 = m then (kv.1, x) else kv) = r
  | [], _ => rfl
  | kv :: r, h => by
    simp only [List.map_cons, List.mem_cons, not_or] at h ⊢
    rw [if_neg (fun e => h.1 e.symm), map_same h.2]
theorem AR.put {es : List DictEntry} {at_ : List (String × AV)} (r : AR prog w cl G es at_) (hn : (at_.map (·.1)).Nodup) {m : String} {v : Value} {x : AV} {hsh : Int} {t : Tok} (a : RV prog w cl G v x) :
    AR prog w cl G (putL (Str.ofString m) hsh (.str (Str.ofString m) t) v es) (aPut at_ m x) := by
  induction es generalizing at_ with
  | nil => cases r; exact .cons a .nil
  | cons e es ih =>
    cases r with
    | @cons h' t' v' nm x' _ at_ a' r =>
    rw [List.map_cons, List.nodup_cons] at hn
    unfold putL
    rw [isStr_key]
    by_cases h : nm = m
    · subst h
      rw [if_pos (by simp)]
      have e : aPut ((nm, x') :: at_) nm x = (nm, x) :: at_ := by
        unfold aPut
        simp only [List.any_cons, decide_true, Bool.true_or, if_true, List.map_cons]
        rw [map_same hn.1]
      rw [e]
      exact .cons a r
    · rw [if_neg (by simpa using h), aPut_cons_ne h]
      exact .cons a' (ih r hn.2)
theorem aPut_nodup {at_ : List (String × AV)} (hn : (at_.map (·.1)).Nodup) (m : String) (x : AV) : ((aPut at_ m x).map (·.1)).Nodup := by
  induction at_ with
  | nil => simp [aPut]
  | cons kv r ih =>
    obtain ⟨k, y⟩ := kv
    rw [List.map_cons, List.nodup_cons] at hn
    by_cases h : k = m
    · subst h
      have e : aPut ((k, y) :: r) k x = (k, x) :: r := by
        unfold aPut
        simp only [List.any_cons, decide_true, Bool.true_or, if_true, List.map_cons]
        rw [map_same hn.1]
      rw [e]; simpa using hn
    · rw [aPut_cons_ne h, List.map_cons, List.nodup_cons]
      refine ⟨?_, ih hn.2⟩
      unfold aPut
      split
      · rw [List.map_map]
        intro hm
        obtain ⟨q, hq, e⟩ := List.mem_map.mp hm
        refine hn.1 (List.mem_map.mpr ⟨q, hq, ?_⟩)
        simp only [Function.comp] at e
        split at e <;> exact e
      · rw [List.map_append]
        intro hm
        rcases List.mem_append.mp hm with q | q
        · exact hn.1 q
        · simp at q; exact h q

theorem snd_attr {u : Value} {o x : AV} {m : String} (hK : F.In s.heap) (hC : ∀ C ∈ clsNames, ClsOk F (cl C)) (R : RelH prog w cl P G own hp s.heap) (r : RV prog w cl G u o) (e : attrGet o m hp = some x) (hm : m ∈ attrNames)
    (k : ∀ v t, RV prog w cl G v x → Q v { s with toks := t }) : wpAny (model prog w) A (getAttr u (Str.ofString m) true) Q E s := by
  have main : ∀ {Cn : String} {at_ : List (String × AV)} {a d : Nat} {es : List DictEntry} {kk : Nat}, Cn ∈ clsNames → s.heap.get? a = some (instObj (cl Cn) d) → s.heap.get? d = some (dictOf es kk) → AR prog w cl G es at_ → aGet at_ m = some x →
      wpAny (model prog w) A (getAttr (.ref a) (Str.ofString m) true) Q E s := by
    intro Cn at_ a d es kk h2 h3 h4 h5 e
    have g := h5.get m
    rw [e] at g
    obtain ⟨v, hv, rv⟩ := g
    have c := hC _ h2
    exact get_value (od := some (dictOf es kk)) hK ⟨h3, rfl, rfl, h4⟩ c.ga (findObj_own c.hasD (c.attr m hm) rfl (by rw [lookIn_dict]; exact hv)) rv.handed (k v _ rv)
  unfold attrGet at e
  split at e
  · cases r with
    | inst c g d r => exact main c (R.keepG _ _ g) (R.keepG _ _ d) r e
  · obtain rfl := r.ref_inv
    split at e
    · rename_i q
      split at e
      · rename_i q2
        obtain ⟨⟨ob, ho, ro⟩, _⟩ := R.ok _ _ q
        obtain ⟨⟨od, hod, rd⟩, _⟩ := R.ok _ _ q2
        cases ro with | inst c =>
        cases rd with | attrs rd _ => exact main c ho hod rd e
      · cases e
    · cases e
  · cases e

theorem snd_getMethod {u : Value} {at_ : List (String × AV)} {m Cn : String} {pl : Sem Bool} {f : Addr} {Q : Value × List Value → Shared → Prop} (hK : F.In s.heap) (hC : ∀ C ∈ clsNames, ClsOk F (cl C)) (R : RelH prog w cl P G own hp s.heap)
    (r : RV prog w cl G u (.inst Cn at_)) (en : aGet at_ m = none) (hf : findIn F (.ref (cl Cn)) (Str.ofString m) = some (some (.ref f)) ∧ typeIn F (.ref f) = some (.type "function"))
    (k : Q (.ref f, [u]) s) : wpAny (model prog w) A (getMethod u (Str.ofString m) pl) Q E s := by
  cases r with
  | inst h2 h3 h4 h5 =>
  have g := h5.get m
  rw [en] at g
  have c := hC _ h2
  exact method_fn (od := some (dictOf _ _)) hK ⟨R.keepG _ _ h3, rfl, rfl, R.keepG _ _ h4⟩ c.ga c.gt hf.1 hf.2 (by show (lookIn _ (dictOf _ _)).map _ = _; rw [lookIn_dict, show getL _ _ = some none from g]; rfl) k

theorem osa_own {ox od od' : Obj} {x dx C : Addr} {name : Str} {tk : Tok} {v : Value} {es : List DictEntry} {n : Nat} {R : Result → Shared → Prop} (X : F.In s.heap)
    (I : InstAt s.heap x ox C (some od)) (hd : ox.dict = some dx) (hp : plainOver F C = true) (ht : takerIn F C name = some none) (hh : (clsIn F C).any (·.hasDict) = true)
    (hl : (lookIn name od).isSome = true) (D : s.heap.get? dx = some od)
    (e : Obj.putName name (PyData.keyHash w.params name) (.str name s.toks) v od = od') (e' : od'.data = .dict es.toArray n) (hz : es.length ≤ 1000)
    (h : R (.ok (.ret .none)) { s with heap := s.heap.update dx (Obj.putName name (PyData.keyHash w.params name) (.str name s.toks) v), toks := s.toks + 1 }) :
    codeAny (model prog w) A (.call (.builtin "object.__setattr__") ⟨[.ref x, .str name tk, v], []⟩) R s := by
  refine osa_open X I hp ht fun b => ?_
  obtain ⟨cd, hc, hd'⟩ := any_some hh
  have D' : (s.heap.update dx (Obj.putName name (PyData.keyHash w.params name) (.str name s.toks) v)).get? dx = some od' := e ▸ Heap.get?_update_self _ D (by rw [e]; exact Obj.isFreed_of_dict e')
  obtain ⟨hx, hcl, hn, -⟩ := I
  obtain ⟨oc, odi, oda, osl⟩ := ox
  dsimp only at hcl hd
  subst hcl hd
  refine wpAny_bind (wpAny_pure (wpAny_bind (wpAny_bind (wpAny_loadPart hx (wpAny_bind ((looks_clsIn X hc).here ?_))))))
  rw [hd']
  refine wpAny_pure (a := some dx) (wpAny_bind (wpAny_pure (wpAny_bind ?_)))
  unfold nsSet
  refine wpAny_bind (wpAny_bind (wpAny_askSetting (wpAny_pure (wpAny_bind (wpAny_mkText (wpAny_bind (wpAny_loadPart D ?_)))))))
  unfold lookIn at hl
  split at hl
  · rename_i es₀ n₀ q
    rw [q]
    dsimp only
    have c : (!es₀.any (·.key.isStr name) && es₀.any (·.refKey)) = false := by
      rw [← Array.any_toList, ← Array.any_toList]
      split at hl
      · rename_i en he
        rw [List.any_eq_true.mpr ⟨en, List.mem_of_find?_eq_some he, List.find?_some he⟩]; rfl
      · split at hl
        · cases hl
        · rename_i z; rw [Bool.not_eq_true] at z; rw [z, Bool.and_false]
    rw [aRefKeyMayBeTheName_at, c]
    refine wpAny_updatePart D ?_
    refine wpAny_bind (wpAny_lookBehind D' (by rw [e']; exact pastItsLine_dict (by rw [List.size_toArray, sizeLine_eq]; exact Nat.le_trans hz (Nat.le_add_left _ _))) ?_)
    exact wpAny_pure h
  · cases hl

theorem snd_setAttr {a d : Nat} {v : Value} {x : AV} {m Cn : String} {at_ : List (String × AV)} {Q : Unit → Shared → Prop} (hK : F.In s.heap) (hC : ∀ C ∈ clsNames, ClsOk F (cl C)) (R : RelH prog w cl P G own hp s.heap)
    (q : hp a = some (.inst Cn d)) (q2 : hp d = some (.attrs at_)) (r : RV prog w cl G v x) (hm : m ∈ attrNames) (hl : at_.length ≤ 100)
    (k : ∀ s', Post prog w cl P G own s G (hp.set d (.attrs (aPut at_ m x))) s' → Q () s') : wpAny (model prog w) A (setAttr (.ref a) (Str.ofString m) v) Q E s := by
  obtain ⟨⟨ob, ho, ro⟩, _⟩ := R.ok _ _ q
  obtain ⟨⟨od, hod, rd⟩, _⟩ := R.ok _ _ q2
  cases ro with | inst c =>
  cases rd with | @attrs es kk _ rd hnd =>
  have cc := hC _ c
  have I : InstAt s.heap a (instObj (cl Cn) d) (cl Cn) (some (dictOf es kk)) := ⟨ho, rfl, rfl, hod⟩
  have hlen := rd.length
  have hpl : (putL (Str.ofString m) (PyData.keyHash w.params (Str.ofString m)) (.str (Str.ofString m) (s.toks + 1)) v es).length ≤ es.length + 1 := by
    have : ∀ l : List DictEntry, (putL (Str.ofString m) (PyData.keyHash w.params (Str.ofString m)) (.str (Str.ofString m) (s.toks + 1)) v l).length ≤ l.length + 1 := by
      intro l
      induction l with
      | nil => simp [putL]
      | cons e l ih => unfold putL; split <;> simp; omega
    exact this es
  refine set_plain hK I cc.sa (osa_own (s := { s with toks := s.toks + 1 }) hK I rfl cc.plain (by unfold takerIn; rw [cc.attr m hm]; rfl) cc.hasD ?_ hod (putName_dict _ _ _ _ _ _) rfl (Nat.le_trans hpl (by omega)) ?_)
  · have g := rd.get m
    rw [lookIn_dict]
    cases e : aGet at_ m with
    | none => rw [e] at g; rw [show getL _ es = some none from g]; rfl
    | some y => rw [e] at g; obtain ⟨v, hv, _⟩ := g; rw [hv]; rfl
  · have ho2 := Heap.get?_update_self (Obj.putName (Str.ofString m) (PyData.keyHash w.params (Str.ofString m)) (.str (Str.ofString m) (s.toks + 1)) v) hod (by rw [putName_dict]; rfl)
    rw [putName_dict] at ho2
    exact k _ (Post.upd (t := s.toks + 1 + 1) R q2 (fun b hb => Heap.get?_update_other _ _ (fun z => hb z.symm)) ho2 (.attrs (rd.put hnd r) (aPut_nodup hnd m x)))

end
end Mine
end
section
set_option Elab.async false
set_option maxRecDepth 100000
namespace Mine
open PySem PySem.W PySem.Calls PyProof.Rows

section
variable {prog : Program} {w : World} {cl : String → Nat} {h0 : Heap} {n : Nat} {sc : Scope} {env : Env} {A : Around} {P P2 G G' G2 : Tab} {own own2 : Nat → Prop} {loc : Loc} {hp hp' hp2 : HP} {h h' h2 : Heap} {s s' : Shared}
  {Q : Value → Shared → Prop} {E : Value → Shared → Prop} {K : AV → HP → Prop} {F : Frag}

open Classical in
/-- P, and beside it the frame's own objects, as h has them -/
noncomputable def prot (P : Tab) (own : Nat → Prop) (h : Heap) : Tab := fun a => if own a then h.get? a else P a
theorem prot_own {a : Nat} (e : own a) : prot P own h a = h.get? a := if_pos e
theorem prot_P {a : Nat} (e : ¬ own a) : prot P own h a = P a := if_neg e

theorem RelH.down (R : RelH prog w cl P G own hp h) (k : ∀ b o, h.get? b = some o → h'.get? b = some o) (hn : ∀ a, own2 a → h.get? a = none ∧ ∃ o, h'.get? a = some o) : RelH prog w cl (prot P own h) G own2 hp h' where
  keepP a o e := by
    by_cases ha : own a
    · rw [prot_own ha] at e; exact k _ _ e
    · rw [prot_P ha] at e; exact k _ _ (R.keepP a o e)
  keepG a o e := k _ _ (R.keepG a o e)
  ok a x e := by
    obtain ⟨⟨o, ho, r⟩, p1, p2, p3⟩ := R.ok a x e
    exact ⟨⟨o, k _ _ ho, r⟩, by rw [prot_P p3]; exact p1, p2, fun q => by rw [(hn a q).1] at ho; cases ho⟩
  ownD a e := by
    obtain ⟨q1, q2⟩ := hn a e
    refine ⟨q2, ?_, R.freshG q1⟩
    rw [prot_P (R.freshO q1)]; exact R.freshP q1
  disj a o e := by
    by_cases ha : own a
    · exact (R.ownD a ha).2.2
    · rw [prot_P ha] at e; exact R.disj a o e
  gsys := R.gsys
  hsys := R.hsys
  psys := by
    obtain ⟨a, o, hl, ho⟩ := R.psys
    exact ⟨a, o, hl, by rw [prot_P (fun q => by have := (R.ownD _ q).2.1; rw [ho] at this; cases this)]; exact ho⟩

theorem RelH.up (R0 : RelH prog w cl P G own hp h) (R : RelH prog w cl P2 G2 own2 hp2 h2) (hP : ∀ a o, P a = some o → P2 a = some o) (hO : ∀ a, own a → ∃ o, P2 a = some o) : RelH prog w cl P G2 own hp2 h2 where
  keepP a o e := R.keepP a o (hP a o e)
  keepG := R.keepG
  ok a x e := by
    obtain ⟨q, p1, p2, p3⟩ := R.ok a x e
    refine ⟨q, ?_, p2, fun ho => ?_⟩
    · cases z : P a with
      | none => rfl
      | some o => rw [hP a o z] at p1; cases p1
    · obtain ⟨o, z⟩ := hO a ho; rw [z] at p1; cases p1
  ownD a e := by
    obtain ⟨o, z⟩ := hO a e
    exact ⟨⟨o, R.keepP _ _ z⟩, (R0.ownD a e).2.1, R.disj _ _ z⟩
  disj a o e := R.disj a o (hP a o e)
  gsys := R.gsys
  hsys := R.hsys
  psys := R0.psys

theorem prot_sub (R : RelH prog w cl P G own hp h) : ∀ a o, P a = some o → prot P own h a = some o := fun a o e => by
  rw [prot_P (fun q => by have := (R.ownD a q).2.1; rw [e] at this; cases this)]; exact e
theorem prot_has (R : RelH prog w cl P G own hp h) : ∀ a, own a → ∃ o, prot P own h a = some o := fun a e => by
  obtain ⟨⟨o, ho⟩, _⟩ := R.ownD a e; exact ⟨o, by rw [prot_own e]; exact ho⟩

/-- the shared state but for heap and tokens -/
noncomputable def Same (s s' : Shared) : Prop := ∃ h tk, s' = { s with heap := h, toks := tk }
theorem Same.refl (s : Shared) : Same s s := ⟨_, _, rfl⟩
theorem Same.trans {s s' s'' : Shared} (x : Same s s') (y : Same s' s'') : Same s s'' := by
  obtain ⟨a, b, rfl⟩ := x; obtain ⟨c, d, rfl⟩ := y; exact ⟨c, d, rfl⟩

theorem store {x : String} {u : Value} {v : AV} {Q : Unit → Shared → Prop} (c : Ctx prog w cl h0 n sc env A P G own loc hp s) (S : EnvS env) (r : RV prog w cl G u v)
    (hk : env.kindOf (Str.ofString x) = some .local ∨ (env.kindOf (Str.ofString x) = some .cell ∧ ∃ q, env.cells.lookup (Str.ofString x) = some q ∧ own q))
    (k : ∀ s', Ctx prog w cl h0 n sc env A P G own (loc.set x v) hp s' → Same s s' → Q () s') : wpAny (model prog w) A (storeName env (Str.ofString x) u) Q E s := by
  rcases hk with hk | ⟨hk, q, hq, ho⟩
  · obtain ⟨ml, hn⟩ := c.eok.ns
    refine wpAny_storeName_local hk hn (fun h' hn' hs => k _ ?_ ⟨_, _, rfl⟩) (by rw [c.eok.kind]; rfl)
    obtain ⟨oL, es, ep, hoL, rest⟩ := hn'
    have hR := c.rel.updOwn c.eok.ownL (fun b hb => hs.2 b hb) hoL
    refine ⟨c.sc, c.aok, c.base, hR, ⟨c.eok.kind, c.eok.glob, c.eok.blt, ⟨_, oL, es, ep, hoL, rest⟩, c.eok.ownL, fun y hy => ?_⟩, fun y z e hvis => ?_⟩
    · obtain ⟨cc, v, h1, ⟨o, h2, h2'⟩, h3⟩ := c.eok.cell y hy
      exact ⟨cc, v, h1, ⟨o, (hs.2 _ (S.neL _ _ h1)).trans h2, h2'⟩, h3⟩
    · unfold Loc.set at e
      split at e
      · rename_i hxy; subst hxy
        cases e
        exact ⟨u, .inl ⟨hk, _, ⟨oL, es, ep, hoL, rest⟩, by simp⟩, r⟩
      · rename_i hxy
        obtain ⟨u', hv, rv⟩ := c.lok y z e hvis
        refine ⟨u', ?_, rv⟩
        rcases hv with ⟨k1, ml', hn2, e2⟩ | ⟨k1, cc, h1, o, h2, h2'⟩
        · refine .inl ⟨k1, _, ⟨oL, es, ep, hoL, rest⟩, ?_⟩
          rw [if_neg (fun e => hxy (ofString_inj e))]
          obtain ⟨o1, es1, ep1, a1, a2, a3, a4⟩ := hn
          obtain ⟨o2, es2, ep2, b1, b2, b3, b4⟩ := hn2
          rw [a1] at b1; cases b1
          rw [a2] at b2; cases b2
          rw [← a4, b4]; exact e2
        · exact .inr ⟨k1, cc, h1, o, (hs.2 _ (S.neL _ _ h1)).trans h2, h2'⟩
  · obtain ⟨cc, v0, h1, hi, _⟩ := c.eok.cell _ hk
    rw [hq] at h1; cases h1
    refine wpAny_storeName_cell c.eok.kind hk hq hi fun h' hi' hs => k _ ?_ ⟨_, _, rfl⟩
    obtain ⟨oc, hoc, hdc⟩ := hi'
    have hR := c.rel.updOwn ho (fun b hb => hs.2 b hb) hoc
    obtain ⟨ml, oL, es, ep, hoL, rest⟩ := c.eok.ns
    have hL : h'.get? env.locals = some oL := (hs.2 _ (Ne.symm (S.neL _ _ hq))).trans hoL
    refine ⟨c.sc, c.aok, c.base, hR, ⟨c.eok.kind, c.eok.glob, c.eok.blt, ⟨ml, oL, es, ep, hL, rest⟩, c.eok.ownL, fun y hy => ?_⟩, fun y z e hvis => ?_⟩
    · obtain ⟨cc, v, h1, ⟨o, h2, h2'⟩, h3⟩ := c.eok.cell y hy
      by_cases hcc : cc = q
      · subst hcc; exact ⟨_, _, h1, ⟨oc, hoc, hdc⟩, h3⟩
      · exact ⟨cc, v, h1, ⟨o, (hs.2 _ hcc).trans h2, h2'⟩, h3⟩
    · unfold Loc.set at e
      split at e
      · rename_i hxy; subst hxy
        cases e
        exact ⟨u, .inr ⟨hk, _, hq, ⟨oc, hoc, hdc⟩⟩, r⟩
      · rename_i hxy
        obtain ⟨u', hv, rv⟩ := c.lok y z e hvis
        refine ⟨u', ?_, rv⟩
        rcases hv with ⟨k1, ml', ⟨o2, es2, ep2, b1, b2⟩, e2⟩ | ⟨k1, cc, h1, o, h2, h2'⟩
        · exact .inl ⟨k1, ml', ⟨o2, es2, ep2, (hs.2 _ (Ne.symm (S.neL _ _ hq))).trans b1, b2⟩, e2⟩
        · exact .inr ⟨k1, cc, h1, o, (hs.2 _ (fun e => hxy (ofString_inj (S.inj _ _ _ (e ▸ h1) hq)))).trans h2, h2'⟩

end
end Mine
end
section
set_option Elab.async false
set_option maxRecDepth 100000
namespace Mine
open PySem PySem.W PySem.Calls PyProof.Rows

noncomputable def ownsT (T : String) : Bool := ["enumerate", "zip", "dict_itemiterator", "dict_reverseitemiterator", "odict_iterator", "itertools.zip_longest", "itertools.pairwise"].contains T

section
variable (prog : Program) (w : World) (cl : String → Nat)
/-- an iterator at I over the abstract items xs; St i h: it stands before the i-th -/
structure Itr (G : Tab) (I : Nat) (xs : List AV) (St : Nat → Heap → Prop) : Prop where
  step : ∀ (A : Around) i (s : Shared) (Q : Option Value → Shared → Prop) (E : Value → Shared → Prop) x, A.handled = none → St i s.heap → xs[i]? = some x →
    (∀ v h' tk, RV prog w cl G v x → St (i + 1) h' → (∀ b, b ≠ I → ∀ o, s.heap.get? b = some o → h'.get? b = some o) → Q (some v) { s with heap := h', toks := tk }) → wpAny (model prog w) A (pyNext (.ref I)) Q E s
  done : ∀ (A : Around) (s : Shared) (Q : Option Value → Shared → Prop) (E : Value → Shared → Prop), A.handled = none → St xs.length s.heap →
    (∀ h' tk, (∀ b, b ≠ I → ∀ o, s.heap.get? b = some o → h'.get? b = some o) → Q none { s with heap := h', toks := tk }) → wpAny (model prog w) A (pyNext (.ref I)) Q E s
  frame : ∀ i (h h' : Heap), St i h → (∀ o, h.get? I = some o → h'.get? I = some o) → (∀ a o, G a = some o → h.get? a = some o) → (∀ a o, G a = some o → h'.get? a = some o) → St i h'
  obj : ∀ i (h : Heap), St i h → ∃ o T, h.get? I = some o ∧ o.cls = .type T ∧ ownsT T = false
  self : ∀ (A : Around) i (s : Shared) (Q : Value → Shared → Prop) (E : Value → Shared → Prop), A.handled = none → St i s.heap → Q (.ref I) s → wpAny (model prog w) A (pyIter (.ref I)) Q E s
end

section
variable {prog : Program} {w : World} {cl : String → Nat} {P G G' : Tab} {own : Nat → Prop} {hp : HP} {s : Shared} {A : Around} {Q : Value → Shared → Prop} {E : Value → Shared → Prop}

theorem Itr.mono {I : Nat} {xs : List AV} {St : Nat → Heap → Prop} (W : Itr prog w cl G I xs St) (h : Ext G G') : Itr prog w cl G' I xs St where
  step A i s Q E x hA st hx k := W.step A i s Q E x hA st hx fun v h' tk r => k v h' tk (r.mono h)
  done := W.done
  frame i h1 h2 st a b c := W.frame i h1 h2 st a (fun x o e => b x o (h x o e)) (fun x o e => c x o (h x o e))
  obj := W.obj
  self := W.self

theorem itr_of_walks {I ax : Nat} {xs : List AV} {Pv : Nat → Value → Prop} {St : Nat → Heap → Prop} (W : ∀ A : Around, A.handled = none → Walks prog w A I [I, ax] [I] xs.length Pv St) (hg : ∃ o, G ax = some o)
    (hv : ∀ i x v, xs[i]? = some x → Pv i v → RV prog w cl G v x) (ho : ∀ i h, St i h → ∃ o T, h.get? I = some o ∧ o.cls = .type T ∧ ownsT T = false) : Itr prog w cl G I xs St where
  step A i s Q E x hA st hx k := (W A hA).item i s Q E (List.getElem?_eq_some_iff.mp hx).1 st fun v h' tk hp st' hk => k v h' tk (hv i x v hx hp) st' fun b hb o e => hk b o (fun z => hb (List.mem_singleton.mp z)) e
  done A s Q E hA st k := (W A hA).done s Q E st fun h' tk hk => k h' tk fun b hb o e => hk b o (fun z => hb (List.mem_singleton.mp z)) e
  frame i h h' st a b c := (W { handled := none } rfl).frame i h h' st fun x hx o e => by
    rcases List.mem_cons.mp hx with rfl | hx
    · exact a o e
    · rw [List.mem_singleton.mp hx] at e ⊢
      obtain ⟨o', ho'⟩ := hg
      have e1 := b _ _ ho'
      rw [e] at e1; cases e1
      exact c _ _ ho'
  obj := ho
  self A i s Q E hA st k := (W A hA).self i s Q E st k

theorem itr_range {I : Nat} {lo : Int} {m : Nat} (xs : List AV) (hx : xs = (List.range m).map fun (k : Nat) => AV.int (lo + k)) :
    Itr prog w cl G I xs (fun i h => IsRangeIter h I (lo + (i : Nat) * 1) ((m : Int) - (i : Nat)) 1) where
  step A i s Q E x hA st hxi k := by
    subst hx
    have hi : i < m := by have := (List.getElem?_eq_some_iff.mp hxi).1; simpa using this
    have he : x = AV.int (lo + i) := by simp [hi] at hxi; exact hxi.symm
    subst he
    refine (Walks.range (prog := prog) (w := w) hA I lo 1 m).item i s Q E hi st fun v h' tk hp st' hk => ?_
    obtain ⟨t, rfl⟩ := hp
    rw [Int.mul_one] at *
    exact k _ h' tk (.int _ _) st' fun b hb o e => hk b o (fun z => hb (List.mem_singleton.mp z)) e
  done A s Q E hA st k := by
    subst hx
    rw [List.length_map, List.length_range] at st
    exact (Walks.range (prog := prog) (w := w) hA I lo 1 m).done s Q E st fun h' tk hk => k h' tk fun b hb o e => hk b o (fun z => hb (List.mem_singleton.mp z)) e
  frame i h h' st a _ _ := a _ st
  obj i h st := ⟨_, _, st, rfl, by decide⟩
  self A i s Q E hA st k := wpAny_pyIter_rangeiter st k

theorem iter_start {v : Value} {x : AV} {xs : List AV} (R : RelH prog w cl P G own hp s.heap) (r : RV prog w cl G v x) (e : itemsOf x = some xs) (hA : A.handled = none)
    (k : ∀ oI St, oI.isFreed = false → Itr prog w cl G s.heap.objs.size xs St → St 0 (s.heap.push oI) → Q (.ref s.heap.objs.size) { s with heap := s.heap.push oI }) : wpAny (model prog w) A (pyIter v) Q E s := by
  have ne : ∀ {a : Nat} {o : Obj}, G a = some o → a ≠ s.heap.objs.size := fun g q => by
    have := Heap.lt_size (R.keepG _ _ g); rw [q] at this; exact Nat.lt_irrefl _ this
  unfold itemsOf at e
  split at e
  · cases e
    obtain ⟨a, items, m, rfl, g, r⟩ := r.fl_inv
    refine wpAny_pyIter_list (IsL.isList (R.keepG _ _ g)) (k _ (fun i h => h.IsListIter s.heap.objs.size a i ∧ h.IsList a items) rfl (itr_of_walks (Pv := fun i v => items[i]? = some v) (fun A hA => by rw [← r.size]; exact Walks.list hA _ a (ne g) items) ⟨_, g⟩ ?_ ?_) ⟨⟨_, Heap.get?_push_size _ rfl, rfl, rfl⟩, (IsL.isList (R.keepG _ _ g)).push _⟩)
    · intro i x v hx hv
      rw [← Array.getElem?_toList] at hv
      obtain ⟨y, hy, ry⟩ := r.get hv
      rw [hx] at hy; cases hy; exact ry
    · rintro i h ⟨⟨o, ho, hc, _⟩, _⟩; exact ⟨o, _, ho, hc, by decide⟩
  · cases e
    obtain ⟨a, items, m, rfl, g, r⟩ := r.tup_inv
    have ht : s.heap.IsTuple a items := ⟨_, R.keepG _ _ g, rfl, _, rfl⟩
    refine wpAny_pyIter_tuple ht (k _ (fun i h => h.IsTupleIter s.heap.objs.size a i ∧ h.IsTuple a items) rfl (itr_of_walks (Pv := fun i v => items[i]? = some v) (fun A hA => by rw [← r.size]; exact Walks.tuple hA _ a (ne g) items) ⟨_, g⟩ ?_ ?_) ⟨⟨_, Heap.get?_push_size _ rfl, rfl, rfl⟩, ht.push _⟩)
    · intro i x v hx hv
      rw [← Array.getElem?_toList] at hv
      obtain ⟨y, hy, ry⟩ := r.get hv
      rw [hx] at hy; cases hy; exact ry
    · rintro i h ⟨⟨o, ho, hc, _⟩, _⟩; exact ⟨o, _, ho, hc, by decide⟩
  · rename_i ks
    cases e
    obtain ⟨a, o, rfl, g, hd⟩ := r.fd_inv
    have hdo : s.heap.DictOf (intKind prog w) a (ks.map fun k => (k, Value.bool true)) := Heap.dictOf_iff.mpr ⟨_, R.keepG _ _ g, hd⟩
    obtain ⟨ep, hat⟩ := hdo.dictAt
    refine wpAny_pyIter_dict (ne_sys (R.g_ne_sys g (by obtain ⟨_, _, x, _⟩ := hd; exact x.1))) hat (k _ (fun i h => h.IsKeyIter s.heap.objs.size a i (ks.map fun k => (k, Value.bool true)).length ep ∧ h.DictAt (intKind prog w) a (ks.map fun k => (k, Value.bool true)) ep) rfl
      (itr_of_walks (Pv := fun i v => ∃ k x, (ks.map fun k => (k, Value.bool true))[i]? = some (k, x) ∧ (intKind prog w).is k v = true) (fun A hA => by
        have := Walks.dictKeys (knd := intKind prog w) (prog := prog) (w := w) hA s.heap.objs.size a (ne g) (ks.map fun k => (k, Value.bool true)) ep
        rw [List.length_map] at this ⊢
        rw [List.length_map]; exact this) ⟨_, g⟩ ?_ ?_) ⟨⟨_, Heap.get?_push_size _ rfl, rfl, rfl⟩, hat.push _⟩)
    · rintro i x v hx ⟨k, y, hk, hv⟩
      obtain ⟨t, rfl⟩ := Value.isInt_shape hv
      simp only [List.getElem?_map, Option.map_eq_some_iff] at hx hk
      obtain ⟨a, ha, rfl⟩ := hx
      obtain ⟨b, hb, hkb⟩ := hk
      rw [ha] at hb; cases hb
      cases hkb
      exact .int _ _
    · rintro i h ⟨⟨o, ho, hc, _⟩, _⟩; exact ⟨o, _, ho, hc, by decide⟩
  · rename_i lo1 hi1
    cases e
    obtain ⟨a, t, u, v, rfl, g, hl, hh⟩ := r.rng_inv
    have hr : IsRange s.heap a lo1 hi1 1 t u v := R.keepG _ _ g
    have hs : Builtin.Range.small lo1 hi1 1 = true := by
      obtain ⟨l1, l2⟩ := hl; obtain ⟨l3, l4⟩ := hh
      unfold Builtin.Range.small Builtin.Range.rangeFitsLong Builtin.Range.rangeSize
      simp
      omega
    refine wpAny_pyIter_range hr hs (k _ _ rfl (itr_range (lo := lo1) (m := (hi1 - lo1).toNat) _ rfl) ?_)
    show IsRangeIter _ _ _ _ _
    rw [rangeSize_nat]
    have := Heap.get?_push_size s.heap (o := { cls := .type "range_iterator", data := .fields #[rawInt lo1, rawInt ((hi1 - lo1).toNat : Int), rawInt 1] }) rfl
    simpa using this
  · cases e

end
end Mine
end
section
set_option Elab.async false
set_option maxRecDepth 100000
namespace Mine
open PySem PySem.W PySem.Calls PyProof.Rows

section
variable {prog : Program} {w : World} {A : Around} {E : Value → Shared → Prop} {s : Shared} {R : Result → Shared → Prop}

theorem forLoop_step {target it body env}
    (h : wpAny (model prog w) A (pyNext it) (fun r s₁ => match r with
      | none => R (.ok .next) s₁
      | some v => wpAny (model prog w) A (letOwnedTupleGo target it v) (fun _ s₁' =>
          wpAny (model prog w) A (assign target env v) (fun _ s₂ => wpAny (model prog w) A (execs body env) (fun f s₃ => match f with
            | .next | .cont => codeAny (model prog w) A (.forLoop target it body [] env) R s₃
            | .brk => R (.ok .next) s₃
            | .ret v => R (.ok (.ret v)) s₃) (notedBy (model prog w) A env fun e s' => R (.error e) s') s₂) (notedBy (model prog w) A env fun e s' => R (.error e) s') s₁') (notedBy (model prog w) A env fun e s' => R (.error e) s') s₁)
      (notedBy (model prog w) A env fun e s' => R (.error e) s') s) : codeAny (model prog w) A (.forLoop target it body [] env) R s := by
  refine codeAny_of_tree ?_
  show wpAny _ A ((forTurn target it body [] env).onRaise (fun x => do noteFrame x env; theTreesLotGoes x)) _ _ s
  refine wpAny_noted ?_
  simp only [forTurn]
  refine wpAny_bind (wpAny_standAt (wpAny_bind (wpAny_onRaise (wpAny_mono h (fun r s₁ h₁ => ?_) fun _ _ h' => wpAny_standAt h'))))
  cases r with
  | none => exact wpAny_pure ⟨rfl, codeAny_block (wpAny_execs_nil h₁)⟩
  | some v =>
    refine wpAny_bind (wpAny_mono h₁ (fun _ s₁' h₁' => ?_) fun _ _ h' => h')
    refine wpAny_bind (wpAny_mono h₁' (fun _ s₂ h₂ => wpAny_bind (wpAny_mono h₂ (fun f s₃ h₃ => ?_) fun _ _ h' => h')) fun _ _ h' => h')
    cases f with
    | next => exact wpAny_pure ⟨rfl, h₃⟩
    | cont => exact wpAny_pure ⟨rfl, h₃⟩
    | brk => exact wpAny_pure h₃
    | ret v => exact wpAny_pure h₃

theorem compLoop_step {elt target iter : Expr} {ifs : List Expr} {scope : Scope} {pos : Pos} {it acc : Value} {env : Env}
    (h : wpAny (model prog w) A (pyNext it) (fun r s₁ => match r with
      | none => R (.ok .next) s₁
      | some v => wpAny (model prog w) A (letOwnedTupleGo target it v) (fun _ s₁' => wpAny (model prog w) A (assign target env v) (fun _ s₂ =>
          wpAny (model prog w) A (forIn ifs true fun c r => if r = true then do let ok ← isTrue c env (eval c env); pure (ForInStep.yield ok) else pure (ForInStep.yield r)) (fun ok s₃ =>
            if ok = true then wpAny (model prog w) A (eval elt env) (fun x s₄ =>
              wpAny (model prog w) A (call (.builtin "list.append") [acc, x]) (fun _ s₅ => codeAny (model prog w) A (.compLoop (.ListComp elt [⟨target, iter, ifs, 0⟩] scope pos) 0 it acc env) R s₅) (notedBy (model prog w) A env fun e s' => R (.error e) s') s₄) (notedBy (model prog w) A env fun e s' => R (.error e) s') s₃
            else codeAny (model prog w) A (.compLoop (.ListComp elt [⟨target, iter, ifs, 0⟩] scope pos) 0 it acc env) R s₃) (notedBy (model prog w) A env fun e s' => R (.error e) s') s₂) (notedBy (model prog w) A env fun e s' => R (.error e) s') s₁') (notedBy (model prog w) A env fun e s' => R (.error e) s') s₁)
      (notedBy (model prog w) A env fun e s' => R (.error e) s') s) :
    codeAny (model prog w) A (.compLoop (.ListComp elt [⟨target, iter, ifs, 0⟩] scope pos) 0 it acc env) R s := by
  refine codeAny_of_tree ?_
  show wpAny _ A ((compTurn (.ListComp elt [⟨target, iter, ifs, 0⟩] scope pos) 0 it acc env).onRaise (fun x => do noteFrame x env; theTreesLotGoes x)) _ _ s
  refine wpAny_noted ?_
  rw [compTurn_list]
  refine wpAny_bind (wpAny_standAt (wpAny_bind (wpAny_mono h (fun r s₁ h₁ => ?_) fun _ _ h' => h')))
  cases r with
  | none => exact wpAny_pure h₁
  | some v =>
    refine wpAny_bind (wpAny_mono h₁ (fun _ s₁' h₁' => ?_) fun _ _ h' => h')
    refine wpAny_bind (wpAny_mono h₁' (fun _ s₂ h₂ => wpAny_bind (wpAny_mono h₂ (fun ok s₃ h₃ => ?_) fun _ _ h' => h')) fun _ _ h' => h')
    cases ok with
    | false => exact wpAny_pure ⟨rfl, h₃⟩
    | true =>
      exact wpAny_bind (wpAny_bind (wpAny_mono h₃ (fun x s₄ h₄ => wpAny_bind (wpAny_mono h₄ (fun _ s₅ h₅ => wpAny_pure (wpAny_pure ⟨rfl, h₅⟩)) fun _ _ h' => h')) fun _ _ h' => h'))

theorem whileLoop_step {test body env}
    (h : wpAny (model prog w) A (isTrue test env (eval test env)) (fun b s₂ =>
        if b then wpAny (model prog w) A (execs body env) (fun f s₃ => match f with
            | .next | .cont => codeAny (model prog w) A (.whileLoop test body [] env) R s₃
            | .brk => R (.ok .next) s₃
            | .ret v => R (.ok (.ret v)) s₃) (notedBy (model prog w) A env fun e s' => R (.error e) s') s₂
        else R (.ok .next) s₂)
        (notedBy (model prog w) A env fun e s' => R (.error e) s') s) : codeAny (model prog w) A (.whileLoop test body [] env) R s := by
  refine codeAny_of_tree ?_
  show wpAny _ A ((whileTurn test body [] env).onRaise (fun x => do noteFrame x env; theTreesLotGoes x)) _ _ s
  refine wpAny_noted ?_
  simp only [whileTurn]
  refine wpAny_bind (wpAny_mono h (fun b s₂ h₂ => ?_) fun _ _ h' => h')
  cases b with
  | false =>
    simp only [Bool.false_eq_true, if_false] at h₂ ⊢
    exact wpAny_bind (wpAny_execs_nil (wpAny_pure h₂))
  | true =>
    simp only [if_true] at h₂ ⊢
    refine wpAny_bind (wpAny_mono h₂ (fun f s₃ h₃ => ?_) fun _ _ h' => h')
    cases f with
    | next => exact wpAny_pure ⟨rfl, h₃⟩
    | cont => exact wpAny_pure ⟨rfl, h₃⟩
    | brk => exact wpAny_pure h₃
    | ret v => exact wpAny_pure h₃

theorem letOwned {target : Expr} {I : Nat} {v : Value} {o : Obj} {T : String} {Q : Unit → Shared → Prop} (ho : s.heap.get? I = some o) (hc : o.cls = .type T) (hT : ownsT T = false) (h : Q () s) :
    wpAny (model prog w) A (letOwnedTupleGo target (.ref I) v) Q E s := by
  have key : ∀ {a : Nat}, wpAny (model prog w) A (do
      let o ← load I
      match o.cls, o.data with
      | .type n, .fields vs =>
        if ["enumerate", "zip", "dict_itemiterator", "dict_reverseitemiterator", "odict_iterator", "itertools.zip_longest", "itertools.pairwise"].contains n && vs[0]? == some (rawInt a) then
          rule "for.unpacks-the-owned-tuple"
          updateField I 0 .none
      | _, _ => pure ()) Q E s := by
    intro a
    refine wpAny_bind (wpAny_load ho ?_)
    rw [hc]
    split
    · rename_i n vs e1 e2
      cases e1
      have : ["enumerate", "zip", "dict_itemiterator", "dict_reverseitemiterator", "odict_iterator", "itertools.zip_longest", "itertools.pairwise"].contains T = false := hT
      rw [this]
      exact wpAny_pure h
    · exact wpAny_pure h
  unfold letOwnedTupleGo
  split
  · cases v <;> first | exact key | exact wpAny_pure h
  · cases v <;> first | exact key | exact wpAny_pure h
  · exact wpAny_pure h
end
end Mine
end
section
set_option Elab.async false
set_option maxRecDepth 100000
namespace Mine
open PySem PySem.W PySem.Calls PyProof.Rows

noncomputable def Sto (env : Env) (own : Nat → Prop) (x : String) : Prop :=
  env.kindOf (Str.ofString x) = some .local ∨ (env.kindOf (Str.ofString x) = some .cell ∧ ∃ q, env.cells.lookup (Str.ofString x) = some q ∧ own q)

noncomputable def nameOfE : Expr → Option Str
  | .Name y _ => some y
  | _ => none
theorem nameOfE_some {e : Expr} {y : Str} (h : nameOfE e = some y) : ∃ p, e = .Name y p := by
  cases e <;> first | (cases h; exact ⟨_, rfl⟩) | cases h
noncomputable def isNames : List String → List Expr → Bool
  | [], [] => true
  | x :: xs, e :: es => nameOfE e == some (Str.ofString x) && isNames xs es
  | _, _ => false
noncomputable def tupOk (f : List Expr → Bool) : Expr → Bool
  | .Tuple es _ _ => f es
  | _ => false
noncomputable def isTgt (t : Tgt) (e : Expr) : Bool := match t with
  | .nm x => nameOfE e == some (Str.ofString x)
  | .tp xs => tupOk (isNames xs) e
noncomputable def tgtNames : Tgt → List String
  | .nm x => [x]
  | .tp xs => xs

theorem isNames_cons {x : String} {xs : List String} {es : List Expr} (h : isNames (x :: xs) es = true) : ∃ p es', es = .Name (Str.ofString x) p :: es' ∧ isNames xs es' = true := by
  cases es with
  | nil => cases h
  | cons e es =>
    obtain ⟨h1, h2⟩ := Bool.and_eq_true_iff.mp h
    obtain ⟨p, rfl⟩ := nameOfE_some (eq_of_beq h1)
    exact ⟨p, es, rfl, h2⟩
theorem isNames_length {xs : List String} : ∀ {es : List Expr}, isNames xs es = true → xs.length = es.length := by
  induction xs with
  | nil => intro es h; cases es with | nil => rfl | cons _ _ => cases h
  | cons x xs ih =>
    intro es h
    obtain ⟨p, es', rfl, h'⟩ := isNames_cons h
    exact congrArg (· + 1) (ih h')
theorem isNames_each {env : Env} {xs : List String} : ∀ {es : List Expr}, isNames xs es = true → (assignEach es env).length = xs.length ∧ (assignEach es env).findIdx? (·.1) = none := by
  induction xs with
  | nil => intro es h; cases es with | nil => exact ⟨rfl, rfl⟩ | cons _ _ => cases h
  | cons x xs ih =>
    intro es h
    obtain ⟨p, es, rfl, h'⟩ := isNames_cons h
    obtain ⟨a, b⟩ := ih h'
    exact ⟨by show (assignEach es env).length + 1 = _; rw [a]; rfl, by show List.findIdx? _ ((false, assign (.Name (Str.ofString x) p) env) :: assignEach es env) = none; rw [List.findIdx?_cons, b]; rfl⟩

section
variable {prog : Program} {w : World} {cl : String → Nat} {h0 : Heap} {n : Nat} {sc : Scope} {env : Env} {A : Around} {P P2 G G' G2 : Tab} {own own2 : Nat → Prop} {loc : Loc} {hp hp' hp2 : HP} {h h' h2 : Heap} {s s' : Shared}
  {Q : Value → Shared → Prop} {E : Value → Shared → Prop} {K : AV → HP → Prop} {F : Frag}

theorem Ctx.grow (c : Ctx prog w cl h0 n sc env A P G own loc hp s) {t : Nat} (k : ∀ b o, s.heap.get? b = some o → h'.get? b = some o) : Ctx prog w cl h0 n sc env A P G own loc hp { s with heap := h', toks := t } :=
  c.step (Post.growTo c.rel k)

theorem names_store {Q : Unit → Shared → Prop} (S : EnvS env) (xs : List String) : ∀ {es : List Expr} {us : List Value} {vs : List AV} {loc : Loc} {s : Shared}, isNames xs es = true → (∀ x ∈ xs, Sto env own x) → xs.length = vs.length →
    Ctx prog w cl h0 n sc env A P G own loc hp s → RVs prog w cl G us vs → (∀ s', Ctx prog w cl h0 n sc env A P G own (setAll loc xs vs) hp s' → Same s s' → Q () s') →
    wpAny (model prog w) A (assignInOrder ((assignEach es env).map (·.2)) us) Q E s := by
  induction xs with
  | nil =>
    intro es us vs loc s hi _ hl c r k
    cases es with
    | cons _ _ => cases hi
    | nil =>
      cases vs with
      | nil => cases r; exact wpAny_pure (k s c (Same.refl s))
      | cons _ _ => cases hl
  | cons x xs ih =>
    intro es us vs loc s hi hs hl c r k
    obtain ⟨p, es', rfl, hi'⟩ := isNames_cons hi
    cases vs with
    | nil => cases hl
    | cons v vs =>
      cases r with
      | cons a r =>
      show wpAny (model prog w) A (assignInOrder (assign (.Name (Str.ofString x) p) env :: (assignEach es' env).map (·.2)) (_ :: _)) Q E s
      unfold assignInOrder
      refine wpAny_bind (wpAny_holding (wpAny_assign_Name (store c S a (hs x List.mem_cons_self) fun s1 c1 e1 => ?_)))
      exact ih hi' (fun y hy => hs y (List.mem_cons_of_mem _ hy)) (by simpa using hl) c1 r fun s' c' e' => k s' c' (e1.trans e')

theorem isTgt_nm {y : String} {te : Expr} (h : isTgt (.nm y) te = true) : ∃ c, te = .Name (Str.ofString y) c := by
  have h' : nameOfE te = some (Str.ofString y) := eq_of_beq h
  obtain ⟨p, rfl⟩ := nameOfE_some h'
  exact ⟨p, rfl⟩
theorem isTgt_tp {ys : List String} {te : Expr} (h : isTgt (.tp ys) te = true) : ∃ es c p, te = .Tuple es c p ∧ isNames ys es = true := by
  have h' : tupOk (isNames ys) te = true := h
  unfold tupOk at h'
  split at h'
  · exact ⟨_, _, _, rfl, h'⟩
  · cases h'
theorem snd_target {t : Tgt} {te : Expr} {u : Value} {x : AV} {loc' : Loc} {Q : Unit → Shared → Prop} (S : EnvS env) (hi : isTgt t te = true) (hs : ∀ x ∈ tgtNames t, Sto env own x) (c : Ctx prog w cl h0 n sc env A P G own loc hp s)
    (r : RV prog w cl G u x) (e : bindT t x loc = some loc') (k : ∀ s', Ctx prog w cl h0 n sc env A P G own loc' hp s' → Same s s' → Q () s') : wpAny (model prog w) A (assign te env u) Q E s := by
  cases t with
  | nm y =>
    obtain ⟨cx, rfl⟩ := isTgt_nm hi
    cases e
    exact wpAny_assign_Name (store c S r (hs y List.mem_cons_self) k)
  | tp ys =>
    obtain ⟨es, cx, pos, rfl, hi⟩ := isTgt_tp hi
    unfold bindT at e
    split at e
    · rename_i q; cases q
    · rename_i xs vs q
      cases q
      split at e
      · rename_i hlen
        cases e
        obtain ⟨a, items, m, rfl, g, r⟩ := r.tup_inv
        have ha := isNames_each (env := env) hi
        refine wpAny_assign_Tuple c.aok.handled ⟨_, c.rel.keepG _ _ g, rfl, _, rfl⟩ (by rw [ha.1, hlen, r.size]) ha.2 fun h' hx => ?_
        have c' := c.grow (t := s.toks) (h' := h') fun b o e => hx b o (Nat.ne_of_lt (Heap.lt_size e)) e
        exact names_store S ys hi hs hlen c' r fun s' c2 e2 => k s' c2 (Same.trans ⟨_, _, rfl⟩ e2)
      · cases e
    · cases e

theorem RelH.growBut (R : RelH prog w cl P G own hp h) {I : Nat} (h1 : P I = none) (h2 : G I = none) (h3 : ¬ own I) (h4 : hp I = none) (k : ∀ b, b ≠ I → ∀ o, h.get? b = some o → h'.get? b = some o) : RelH prog w cl P G own hp h' where
  keepP a o e := k a (fun q => by rw [q, h1] at e; cases e) _ (R.keepP a o e)
  keepG a o e := k a (fun q => by rw [q, h2] at e; cases e) _ (R.keepG a o e)
  ok a x e := let ⟨⟨o, ho, r⟩, q⟩ := R.ok a x e; ⟨⟨o, k a (fun z => by rw [z, h4] at e; cases e) _ ho, r⟩, q⟩
  ownD a e := let ⟨⟨o, ho⟩, q⟩ := R.ownD a e; ⟨⟨o, k a (fun z => h3 (z ▸ e)) _ ho⟩, q⟩
  disj := R.disj
  gsys := R.gsys
  hsys := R.hsys
  psys := R.psys
theorem Post.growBut {t : Nat} (R : RelH prog w cl P G own hp s.heap) {I : Nat} (h1 : P I = none) (h2 : G I = none) (h3 : ¬ own I) (h4 : hp I = none) (k : ∀ b, b ≠ I → ∀ o, s.heap.get? b = some o → h'.get? b = some o) :
    Post prog w cl P G own s G hp { s with heap := h', toks := t } :=
  ⟨Ext.refl _, R.growBut h1 h2 h3 h4 k, fun a q => by obtain ⟨⟨o, ho⟩, _⟩ := R.ownD a q; rw [ho]; exact k a (fun z => h3 (z ▸ q)) _ ho, _, _, rfl⟩

theorem RelH.lessP (R : RelH prog w cl P2 G own hp h) (hP : ∀ a o, P a = some o → P2 a = some o) (hs : ∃ a o, sysModules < a ∧ P a = some o) : RelH prog w cl P G own hp h where
  keepP a o e := R.keepP a o (hP a o e)
  keepG := R.keepG
  ok a x e := by
    obtain ⟨q, p1, p2⟩ := R.ok a x e
    refine ⟨q, ?_, p2⟩
    cases z : P a with
    | none => rfl
    | some o => rw [hP a o z] at p1; cases p1
  ownD a e := by
    obtain ⟨q, p1, p2⟩ := R.ownD a e
    refine ⟨q, ?_, p2⟩
    cases z : P a with
    | none => rfl
    | some o => rw [hP a o z] at p1; cases p1
  disj a o e := R.disj a o (hP a o e)
  gsys := R.gsys
  hsys := R.hsys
  psys := hs

theorem EnvOk.lessP (x : EnvOk env own P2 h') (x0 : EnvOk env own P h) : EnvOk env own P h' where
  kind := x.kind
  glob := x.glob
  blt := x.blt
  ns := x.ns
  ownL := x.ownL
  cell y e := by
    obtain ⟨c, v, h1, h2, _⟩ := x.cell y e
    obtain ⟨c', v', h1', _, h3'⟩ := x0.cell y e
    rw [h1] at h1'; cases h1'
    exact ⟨c, v, h1, h2, h3'⟩

theorem Ctx.lessP (c : Ctx prog w cl h0 n sc env A P2 G' own loc hp s) {s0 : Shared} {loc0 : Loc} {hp0 : HP} (c0 : Ctx prog w cl h0 n sc env A P G own loc0 hp0 s0) (hP : ∀ a o, P a = some o → P2 a = some o) (hg : Ext G G') : Ctx prog w cl h0 n sc env A P G' own loc hp s :=
  ⟨c.sc, c.aok, fun a o e => (c0.base a o e).imp id (hg a o), c.rel.lessP hP c0.rel.psys, c.eok.lessP c0.eok, c.lok⟩

theorem Ctx.addP (c : Ctx prog w cl h0 n sc env A P G own loc hp s) {a : Nat} {o : Obj} (ho : s.heap.get? a = some o) (e0 : P a = none) (e1 : hp a = none) (e2 : ¬ own a) (e3 : G a = none) : Ctx prog w cl h0 n sc env A (P.set a o) G own loc hp s :=
  ⟨c.sc, c.aok, fun b x e => (c.base b x e).imp (Tab.ext_set e0 b x) id, c.rel.addP ho e1 e2 e3,
    ⟨c.eok.kind, c.eok.glob, c.eok.blt, c.eok.ns, c.eok.ownL, fun y e => by
      obtain ⟨q, v, h1, h2, h3⟩ := c.eok.cell y e
      exact ⟨q, v, h1, h2, h3.imp id fun ⟨o, z⟩ => ⟨o, Tab.ext_set e0 _ _ z⟩⟩⟩, c.lok⟩

theorem Ctx.sub (c : Ctx prog w cl h0 n sc env A P G own loc hp s) (k : HP.Sub hp' hp) : Ctx prog w cl h0 n sc env A P G own loc hp' s := ⟨c.sc, c.aok, c.base, c.rel.sub k, c.eok, c.lok⟩

end

inductive RF (prog : Program) (w : World) (cl : String → Nat) (G : Tab) : Flow → Fl → Prop
  | next : RF prog w cl G .next .next
  | cont : RF prog w cl G .cont .cont
  | ret {v : Value} {x : AV} : RV prog w cl G v x → RF prog w cl G (.ret v) (.ret x)

noncomputable def EnvF (env : Env) (own : Nat → Prop) : Prop := ∀ x, env.kindOf x = some .cell → ∃ q, env.cells.lookup x = some q ∧ own q

section
variable (prog : Program) (w : World) (cl : String → Nat) (h0 : Heap) (n : Nat) (sc : Scope)

noncomputable def KontB (env : Env) (A : Around) (P G : Tab) (own : Nat → Prop) (s : Shared) (K : Fl → Loc → HP → Prop) (Q : Flow → Shared → Prop) : Prop :=
  ∀ f fl loc' hp' G' s', K fl loc' hp' → RF prog w cl G' f fl → Ext G G' → Same s s' → Ctx prog w cl h0 n sc env A P G' own loc' hp' s' → Q f s'

abbrev WB := Loc → HP → (Fl → Loc → HP → Prop) → Prop
noncomputable def SS (st : Stmt) (W : WB) : Prop := ∀ env A P G own loc hp s K Q E, Ctx prog w cl h0 n sc env A P G own loc hp s → EnvS env → EnvF env own → W loc hp K → KontB prog w cl h0 n sc env A P G own s K Q → wpAny (model prog w) A (exec st env) Q E s
noncomputable def SB (ss : List Stmt) (W : WB) : Prop := ∀ env A P G own loc hp s K Q E, Ctx prog w cl h0 n sc env A P G own loc hp s → EnvS env → EnvF env own → W loc hp K → KontB prog w cl h0 n sc env A P G own s K Q → wpAny (model prog w) A (execs ss env) Q E s
end

section
variable {prog : Program} {w : World} {cl : String → Nat} {h0 : Heap} {n : Nat} {sc : Scope} {env : Env} {A : Around} {P P2 G G' G2 : Tab} {own own2 : Nat → Prop} {loc : Loc} {hp hp' hp2 : HP} {h h' h2 : Heap} {s s' : Shared}
  {E : Value → Shared → Prop} {F : Frag}

theorem snd_for {t : Tgt} {te : Expr} {body : List Stmt} {W : WB} {I : Nat} {St : Nat → Heap → Prop} {all : List AV} {K : Fl → Loc → HP → Prop} {R : Result → Shared → Prop} {s0 : Shared} {G0 : Tab} (S : EnvS env) (EF : EnvF env own) (hi : isTgt t te = true) (hs : ∀ x ∈ tgtNames t, Sto env own x)
    (hb : SB prog w cl h0 n sc body W)
    (k : ∀ f fl loc' hp' G' s', K fl loc' hp' → RF prog w cl G' f fl → Ext G0 G' → Same s0 s' → Ctx prog w cl h0 n sc env A P G' own loc' hp' s' → R (.ok f) s') :
    ∀ (rest : List AV) (i : Nat) (loc : Loc) (hp : HP) (G : Tab) (s : Shared), all.drop i = rest → i + rest.length = all.length → Ctx prog w cl h0 n sc env A P G own loc hp s → Ext G0 G → Same s0 s → Itr prog w cl G I all St → St i s.heap →
      P I = none → G I = none → ¬ own I → hp I = none → wpFor t W rest loc hp K → codeAny (model prog w) A (.forLoop te (.ref I) body [] env) R s := by
  intro rest
  induction rest with
  | nil =>
    intro i loc hp G s hd hi c hg hsm it st p1 p2 p3 p4 hw
    refine forLoop_step (it.done A s _ _ c.aok.handled (by simp at hi; rw [← hi]; exact st) fun h' tk hk => ?_)
    have c' := c.step (Post.growBut (t := tk) c.rel p1 p2 p3 p4 hk)
    exact k _ _ _ _ _ _ hw .next hg (hsm.trans ⟨_, _, rfl⟩) c'
  | cons x rest ih =>
    intro i loc hp G s hd hil c hg hsm it st p1 p2 p3 p4 hw
    have hx : all[i]? = some x := by
      have := congrArg (fun l => l[0]?) hd
      simpa using this
    have hd' : all.drop (i + 1) = rest := by
      have := congrArg (List.drop 1) hd
      rw [List.drop_drop] at this
      simpa using this
    refine forLoop_step (it.step A i s _ _ x c.aok.handled st hx fun v h1 tk rv st1 hk => ?_)
    have pp := Post.growBut (t := tk) c.rel p1 p2 p3 p4 hk
    have c1 := c.step pp
    obtain ⟨oI, T, hoI, hcI, hT⟩ := it.obj _ _ st1
    refine letOwned hoI hcI hT ?_
    have c2 := c1.addP hoI p1 p4 p3 p2
    obtain ⟨loc', hb1, hw⟩ := hw
    refine snd_target S hi hs c2 rv hb1 fun s2 c3 e2 => ?_
    refine hb env A _ _ own _ _ s2 _ _ _ c3 S EF hw fun f fl loc2 hp2 G2 s3 hk2 rf hg2 e3 c4 => ?_
    have hP : ∀ a o, P a = some o → P.set I oI a = some o := Tab.ext_set p1
    have c5 := c4.lessP c hP hg2
    have h12 : Ext G0 G2 := hg.trans hg2
    have hsame : Same s0 s3 := hsm.trans (Same.trans ⟨_, _, rfl⟩ (e2.trans e3))
    have again : ∀ hp3, HP.Sub hp3 hp2 → wpFor t W rest loc2 hp3 K → codeAny (model prog w) A (.forLoop te (.ref I) body [] env) R s3 := by
      intro hp3 hsub hw3
      have pI : P.set I oI I = some oI := Tab.set_self
      have q2 : G2 I = none := c4.rel.disj _ _ pI
      have q4 : hp3 I = none := by
        cases z : hp3 I with
        | none => rfl
        | some y => have := (c4.rel.ok _ _ (hsub _ _ z)).2.1; rw [pI] at this; cases this
      refine ih (i + 1) loc2 hp3 G2 s3 hd' (by rw [List.length_cons] at hil; exact by rw [Nat.add_right_comm]; exact hil) (c5.sub hsub) h12 hsame (it.mono hg2) ?_ p1 q2 p3 q4 hw3
      exact it.frame _ _ _ st1 (fun o e => by rw [hoI] at e; cases e; exact c4.rel.keepP _ _ pI) (fun a o e => c1.rel.keepG a o e) (fun a o e => c4.rel.keepG a o (hg2 a o e))
    cases rf with
    | next => obtain ⟨hp3, hsub, hw3⟩ := hk2; exact again hp3 hsub hw3
    | cont => obtain ⟨hp3, hsub, hw3⟩ := hk2; exact again hp3 hsub hw3
    | ret r => exact k _ _ _ _ _ _ hk2 (.ret r) h12 hsame c5

theorem snd_while {test : Expr} {body : List Stmt} {WT : WE} {W : WB} {K : Fl → Loc → HP → Prop} {R : Result → Shared → Prop} (S : EnvS env) (EF : EnvF env own)
    (ht : ST prog w cl h0 n sc test WT) (hb : SB prog w cl h0 n sc body W) (c : Ctx prog w cl h0 n sc env A P G own loc hp s)
    (hw : wpWhile (fun l h K2 => WT l h (tv K2)) W loc hp K)
    (k : ∀ f fl loc' hp' G' s', K fl loc' hp' → RF prog w cl G' f fl → Ext G G' → Same s s' → Ctx prog w cl h0 n sc env A P G' own loc' hp' s' → R (.ok f) s') :
    codeAny (model prog w) A (.whileLoop test body [] env) R s := by
  refine hw (fun l h => ∀ G1 s1, Ext G G1 → Same s s1 → Ctx prog w cl h0 n sc env A P G1 own l h s1 → codeAny (model prog w) A (.whileLoop test body [] env) R s1) ?_ G s (Ext.refl _) (Same.refl _) c
  intro l h hstep G1 s1 hg hsm c1
  refine whileLoop_step (ht env A P G1 own l h s1 _ _ _ c1 S hstep fun b hp' G' s' hk p => ?_)
  have c2 := c1.step p
  cases b with
  | false => exact k _ _ _ _ _ _ hk .next (hg.trans p.ext) (hsm.trans p.same) c2
  | true =>
    simp only [if_true] at hk ⊢
    refine hb env A P G' own l hp' s' _ _ _ c2 S EF hk fun f fl loc2 hp2 G2 s3 hk2 rf hg2 e3 c4 => ?_
    have again : ∀ hp3, HP.Sub hp3 hp2 → (∀ G1 s1, Ext G G1 → Same s s1 → Ctx prog w cl h0 n sc env A P G1 own loc2 hp3 s1 → codeAny (model prog w) A (.whileLoop test body [] env) R s1) →
        codeAny (model prog w) A (.whileLoop test body [] env) R s3 := fun hp3 hsub hh => hh G2 s3 ((hg.trans p.ext).trans hg2) ((hsm.trans p.same).trans e3) (c4.sub hsub)
    cases rf with
    | next => obtain ⟨hp3, hsub, hw3⟩ := hk2; exact again hp3 hsub hw3
    | cont => obtain ⟨hp3, hsub, hw3⟩ := hk2; exact again hp3 hsub hw3
    | ret r => exact k _ _ _ _ _ _ hk2 (.ret r) ((hg.trans p.ext).trans hg2) ((hsm.trans p.same).trans e3) c4

end
end Mine
end
section
set_option Elab.async false
set_option maxRecDepth 100000
set_option linter.unusedVariables false
namespace Mine
open PySem PySem.W PySem.Calls PyProof.Rows PySem.MeetsSeq

noncomputable def relabelS (scope sc : Scope) : Scope :=
  { scope with names := scope.names.map fun (n, k) => if (k == .free && sc.kind == .function && sc.names.lookup n == some .cell) then (n, .cell) else (n, k) }
theorem relabel_eq {env : Env} {scope sc : Scope} (e : env.scope = sc) : relabel scope env = relabelS scope sc := by subst e; rfl

theorem lookup_relS {sc : Scope} : ∀ {names : List (Str × NameKind)} {x : Str}, (names.map fun (n, k) => if (k == NameKind.free && sc.kind == .function && sc.names.lookup n == some .cell) then (n, NameKind.cell) else (n, k)).lookup x =
    (names.lookup x).map fun k => if (k == NameKind.free && sc.kind == .function && sc.names.lookup x == some .cell) then .cell else k
  | [], _ => rfl
  | (n, k) :: r, x => by
    rw [List.map_cons]
    by_cases hx : x == n
    · have : x = n := eq_of_beq hx
      subst this
      by_cases hc : (k == NameKind.free && sc.kind == .function && sc.names.lookup x == some .cell) = true
      · simp only [hc, if_true, List.lookup_cons, hx, Option.map_some]
      · simp only [hc, List.lookup_cons, hx, Option.map_some]
        simp
    · have hx' : (x == n) = false := by simpa using hx
      by_cases hc : (k == NameKind.free && sc.kind == .function && sc.names.lookup n == some .cell) = true
      · simp only [hc, if_true, List.lookup_cons, hx']; exact lookup_relS
      · simp only [hc, List.lookup_cons, hx']
        simp only [Bool.false_eq_true, if_false, List.lookup_cons, hx']; exact lookup_relS

noncomputable def cloS (cells : List (Str × Addr)) : List (Str × NameKind) → List (Str × Addr) → Option (List (Str × Addr))
  | [], acc => some acc
  | (n, k) :: r, acc => if k == .free then (match cells.lookup n with | some a => cloS cells r ((n, a) :: acc) | none => none) else cloS cells r acc

theorem closure_eq {env : Env} {scope : Scope} {cl : List (Str × Addr)} (h : cloS env.cells scope.names [] = some cl) : closureFor scope env = pure cl := by
  have gen : ∀ (names : List (Str × NameKind)) (acc : List (Str × Addr)), cloS env.cells names acc = some cl →
      (forIn names acc fun (x : Str × NameKind) (cs : List (Str × Addr)) => (do
        let (name, kind) := x
        let cs' ← if kind == .free then do pure ((name, ← cellOf env name) :: cs) else pure cs
        pure (ForInStep.yield cs') : Sem (ForInStep (List (Str × Addr))))) = pure cl := by
    intro names
    induction names with
    | nil => intro acc e; cases e; rfl
    | cons x r ih =>
      intro acc e
      obtain ⟨n, k⟩ := x
      unfold cloS at e
      rw [List.forIn_cons]
      by_cases hk : (k == NameKind.free) = true
      · rw [if_pos hk] at e
        split at e
        · rename_i a ha
          have h1 := ih _ e
          simp only [hk, if_true, cellOf, ha, pure_bind]
          exact h1
        · cases e
      · rw [if_neg hk] at e
        have h1 := ih _ e
        simp only [hk]
        simp only [pure_bind, Bool.false_eq_true, if_false]
        exact h1
  have := gen scope.names [] h
  unfold closureFor
  simp only [bind_pure]
  exact this

theorem cloS_some {cells : List (Str × Addr)} : ∀ {names : List (Str × NameKind)} {acc : List (Str × Addr)}, (∀ x ∈ names, x.2 = .free → ∃ a, cells.lookup x.1 = some a) → ∃ cl, cloS cells names acc = some cl
  | [], acc, _ => ⟨_, rfl⟩
  | (n, k) :: r, acc, h => by
    unfold cloS
    have hr : ∀ x ∈ r, x.2 = .free → ∃ a, cells.lookup x.1 = some a := fun x hx => h x (List.mem_cons_of_mem _ hx)
    by_cases hk : (k == NameKind.free) = true
    · rw [if_pos hk]
      obtain ⟨a, ha⟩ := h _ List.mem_cons_self (eq_of_beq hk)
      rw [show cells.lookup n = some a from ha]
      exact cloS_some hr
    · rw [if_neg hk]; exact cloS_some hr

theorem cloS_sub {cells : List (Str × Addr)} : ∀ {names : List (Str × NameKind)} {acc cl : List (Str × Addr)}, cloS cells names acc = some cl → (∀ x c, acc.lookup x = some c → cells.lookup x = some c) → ∀ x c, cl.lookup x = some c → cells.lookup x = some c
  | [], acc, cl, e, h => by cases e; exact h
  | (n, k) :: r, acc, cl, e, h => by
    unfold cloS at e
    split at e
    · split at e
      · rename_i a ha
        refine cloS_sub e fun x c hx => ?_
        rw [List.lookup_cons] at hx
        split at hx
        · rename_i hxn; cases hx; rw [eq_of_beq hxn]; exact ha
        · exact h x c hx
      · cases e
    · exact cloS_sub e h
theorem cloS_keep {cells : List (Str × Addr)} : ∀ {names : List (Str × NameKind)} {acc cl : List (Str × Addr)}, cloS cells names acc = some cl → ∀ x, (∃ c, acc.lookup x = some c) → ∃ c, cl.lookup x = some c
  | [], acc, cl, e => by cases e; exact fun x h => h
  | (n, k) :: r, acc, cl, e => by
    unfold cloS at e
    split at e
    · split at e
      · refine fun x ⟨c, hc⟩ => cloS_keep e x ?_
        rw [List.lookup_cons]
        split
        · exact ⟨_, rfl⟩
        · exact ⟨c, hc⟩
      · cases e
    · exact cloS_keep e
theorem cloS_has {cells : List (Str × Addr)} : ∀ {names : List (Str × NameKind)} {acc cl : List (Str × Addr)}, cloS cells names acc = some cl → ∀ x, (x, NameKind.free) ∈ names → ∃ c, cl.lookup x = some c
  | [], acc, cl, _ => fun x h => nomatch h
  | (n, k) :: r, acc, cl, e => by
    intro x hx
    unfold cloS at e
    rcases List.mem_cons.mp hx with q | hx
    · cases q
      rw [if_pos (by decide)] at e
      split at e
      · rename_i a _
        exact cloS_keep e n ⟨a, by rw [List.lookup_cons]; simp⟩
      · cases e
    · split at e
      · split at e
        · exact cloS_has e x hx
        · cases e
      · exact cloS_has e x hx

noncomputable def restr (t : Tgt) (loc : Loc) : Loc := fun y => if y ∈ tgtNames t then none else loc y

theorem setAll_same : ∀ {xs : List String} {vs : List AV} {l l' : Loc}, xs.length = vs.length → (∀ y, y ∉ xs → l y = l' y) → setAll l xs vs = setAll l' xs vs
  | [], [], l, l', _, h => funext fun y => h y (List.not_mem_nil)
  | x :: xs, v :: vs, l, l', e, h => setAll_same (xs := xs) (by simpa using e) fun y hy => by
    unfold Loc.set
    split
    · rfl
    · rename_i hne; exact h y (by simp [hne, hy])
theorem bindT_restr {t : Tgt} {x : AV} {loc : Loc} : bindT t x (restr t loc) = bindT t x loc := by
  cases t with
  | nm y =>
    show some _ = some _
    congr 1
    funext z
    unfold Loc.set restr tgtNames
    by_cases hz : z = y <;> simp [hz]
  | tp ys =>
    unfold bindT
    cases x <;> try rfl
    dsimp only
    split
    · rename_i hl
      congr 1
      refine setAll_same hl fun y hy => ?_
      unfold restr tgtNames
      rw [if_neg hy]
    · rfl

theorem setAll_off : ∀ {xs : List String} {vs : List AV} {l : Loc} {y : String}, y ∉ xs → setAll l xs vs y = l y
  | [], _, l, y, _ => rfl
  | x :: xs, [], l, y, _ => rfl
  | x :: xs, v :: vs, l, y, h => by
    show setAll (l.set x v) xs vs y = l y
    rw [setAll_off (fun hm => h (List.mem_cons_of_mem _ hm))]
    unfold Loc.set
    rw [if_neg (fun e => h (by rw [e]; exact List.mem_cons_self))]
theorem bindT_off {t : Tgt} {x : AV} {loc loc' : Loc} (h : bindT t x loc = some loc') {y : String} (hy : y ∉ tgtNames t) : loc' y = loc y := by
  unfold bindT at h
  split at h
  · cases h; unfold Loc.set; unfold tgtNames at hy; rw [if_neg (by simpa using hy)]
  · split at h
    · cases h; exact setAll_off hy
    · cases h
  · cases h

section
variable {prog : Program} {w : World} {cl : String → Nat} {h0 : Heap} {n : Nat} {sc : Scope} {env : Env} {A : Around} {P P2 G G' G2 : Tab} {own own2 : Nat → Prop} {loc loc' : Loc} {hp hp' hp2 : HP} {h h' h2 : Heap} {s s' : Shared}
  {Q : Value → Shared → Prop} {E : Value → Shared → Prop} {K : AV → HP → Prop} {F : Frag}

theorem Ctx.reloc (c : Ctx prog w cl h0 n sc env A P G own loc hp s) (k : ∀ x v, Vis env x → loc' x = some v → loc x = some v) : Ctx prog w cl h0 n sc env A P G own loc' hp s :=
  ⟨c.sc, c.aok, c.base, c.rel, c.eok, fun x v e hv => c.lok x v (k x v hv e) hv⟩

theorem append_raw {a m : Nat} {items : Array Value} {v : Value} (ho : s.heap.get? a = some { cls := .type "list", data := .seq items m }) (hsz : items.size ≤ sizeLine)
    (k : ∀ h' m', (∀ b, b ≠ a → h'.get? b = s.heap.get? b) → h'.get? a = some { cls := .type "list", data := .seq (items.push v) m' } → Q .none { s with heap := h' }) :
    wpAny (model prog w) A (call (.builtin "list.append") [.ref a, v]) Q E s := by
  refine call_meets PySem.F.slot_list_append ⟨_, ho, rfl⟩ PySem.F.entry_list_append (PySem.F.args_list_append_2 _ _) (list_append _ items m v hsz) ⟨ho, ?_⟩
  have h2 := IsL.update ho (fun x => x.push v)
  exact k _ _ (fun b hb => Heap.get?_update_other _ _ (fun q => hb q.symm)) h2

variable (prog w cl h0 n) in
noncomputable def STs (sc : Scope) (ifs : List Expr) (cond : Loc → HP → (Bool → HP → Prop) → Prop) : Prop :=
  ∀ env A P G own loc hp s (K : Bool → HP → Prop) (Q : Bool → Shared → Prop) E, Ctx prog w cl h0 n sc env A P G own loc hp s → EnvS env → cond loc hp K →
    (∀ b hp' G' s', K b hp' → Post prog w cl P G own s G' hp' s' → Q b s') →
    wpAny (model prog w) A (forIn ifs true fun c r => if r = true then do let ok ← isTrue c env (eval c env); pure (ForInStep.yield ok) else pure (ForInStep.yield r)) Q E s

theorem sts_nil : STs prog w cl h0 n sc [] (fun _ hp K => K true hp) := fun env A P G own loc hp s K Q E c S hw k =>
  wpAny_tests_nil (k _ _ _ _ hw (Post.refl c.rel))
theorem sts_one {ce : Expr} {W : WE} (h : ST prog w cl h0 n sc ce W) : STs prog w cl h0 n sc [ce] (fun l hp K => W l hp (tv K)) := fun env A P G own loc hp s K Q E c S hw k =>
  wpAny_tests_one (h env A P G own loc hp s K Q E c S hw k)

theorem snd_comp_loop {elt te iterE : Expr} {ifs : List Expr} {scope : Scope} {pos : Pos} {t : Tgt} {WEl : WE} {cond : Loc → HP → (Bool → HP → Prop) → Prop} {I D : Nat} {St : Nat → Heap → Prop} {all : List AV} {R : Result → Shared → Prop} {s0 : Shared} {G0 : Tab} {loc : Loc}
    (S : EnvS env) (hi : isTgt t te = true) (hs : ∀ x ∈ tgtNames t, Sto env own x) (hel : SE prog w cl h0 n sc elt WEl) (htest : STs prog w cl h0 n sc ifs cond) (hID : I ≠ D) (hPI : P I = none) (hoI : ¬ own I) (hPD : P D = none) (hoD : ¬ own D)
    (k : ∀ xs hp' G' s' items m, K (.fl xs) hp' → Ext G0 G' → Same s0 s' → Ctx prog w cl h0 n sc env A P G' own (restr t loc) hp' s' → s'.heap.get? D = some { cls := .type "list", data := .seq items m } → RVs prog w cl G' items.toList xs → G' D = none → hp' D = none → R (.ok .next) s') :
    ∀ (rest : List AV) (i : Nat) (acc : List AV) (hp : HP) (G : Tab) (s : Shared) (items : Array Value) (m : Nat), all.drop i = rest → i + rest.length = all.length → Ctx prog w cl h0 n sc env A P G own (restr t loc) hp s → Ext G0 G → Same s0 s → Itr prog w cl G I all St → St i s.heap →
      G I = none → hp I = none → G D = none → hp D = none → s.heap.get? D = some { cls := .type "list", data := .seq items m } → RVs prog w cl G items.toList acc → acc.length + rest.length ≤ SZ → wpComp t loc cond WEl rest acc hp K →
      codeAny (model prog w) A (.compLoop (.ListComp elt [⟨te, iterE, ifs, 0⟩] scope pos) 0 (.ref I) (.ref D) env) R s := by
  intro rest
  induction rest with
  | nil =>
    intro i acc hp G s items m hd hil c hg hsm it st gI pI gD pD hD hacc hsz hw
    refine compLoop_step (it.done A s _ _ c.aok.handled (by simp at hil; rw [← hil]; exact st) fun h' tk hk => ?_)
    have c' := c.step (Post.growBut (t := tk) c.rel hPI gI hoI pI hk)
    exact k acc hp G _ items m hw hg (hsm.trans ⟨_, _, rfl⟩) c' (hk D (Ne.symm hID) _ hD) hacc gD pD
  | cons x rest ih =>
    intro i acc hp G s items m hd hil c hg hsm it st gI pI gD pD hD hacc hsz hw
    have hx : all[i]? = some x := by
      have := congrArg (fun l => l[0]?) hd
      simpa using this
    have hd' : all.drop (i + 1) = rest := by
      have := congrArg (List.drop 1) hd
      rw [List.drop_drop] at this
      simpa using this
    refine compLoop_step (it.step A i s _ _ x c.aok.handled st hx fun v h1 tk rv st1 hk => ?_)
    have c1 := c.step (Post.growBut (t := tk) c.rel hPI gI hoI pI hk)
    have hD1 : h1.get? D = _ := hk D (Ne.symm hID) _ hD
    obtain ⟨oI, T, hoI', hcI, hT⟩ := it.obj _ _ st1
    refine letOwned hoI' hcI hT ?_
    obtain ⟨loc1, hb1, hw⟩ := hw
    rw [← bindT_restr] at hb1
    have c2 := (c1.addP hoI' hPI pI hoI gI).addP (a := D) hD1 (by rw [Tab.set_ne (Ne.symm hID)]; exact hPD) pD hoD gD
    have hP : ∀ a o, P a = some o → ((P.set I oI).set D { cls := .type "list", data := .seq items m }) a = some o := fun a o e =>
      Tab.ext_set (by rw [Tab.set_ne (Ne.symm hID)]; exact hPD) a o (Tab.ext_set hPI a o e)
    have pDs : ((P.set I oI).set D { cls := .type "list", data := .seq items m }) D = some { cls := .type "list", data := .seq items m } := Tab.set_self
    have pIs : ((P.set I oI).set D { cls := .type "list", data := .seq items m }) I = some oI := by rw [Tab.set_ne hID]; exact Tab.set_self
    generalize hP2 : ((P.set I oI).set D { cls := .type "list", data := .seq items m }) = P2 at c2 hP pDs pIs
    have back : ∀ {l : Loc} {hp3 : HP} {G3 : Tab} {s3 : Shared}, Ctx prog w cl h0 n sc env A P2 G3 own l hp3 s3 → Ext G G3 → Same s0 s3 → (∀ y, y ∉ tgtNames t → l y = restr t loc y) →
        Ctx prog w cl h0 n sc env A P G3 own (restr t loc) hp3 s3 ∧ s3.heap.get? D = some { cls := .type "list", data := .seq items m } ∧ G3 I = none ∧ G3 D = none ∧ hp3 I = none ∧ hp3 D = none ∧ St (i + 1) s3.heap := by
      intro l hp3 G3 s3 c3 e3 _ hl
      have no : ∀ {a : Nat} {o : Obj}, P2 a = some o → hp3 a = none := fun {a o} q => by
        cases z : hp3 a with
        | none => rfl
        | some y => have := (c3.rel.ok _ _ z).2.1; rw [q] at this; cases this
      refine ⟨(c3.lessP c hP e3).reloc fun x v _ e => ?_, c3.rel.keepP _ _ pDs, c3.rel.disj _ _ pIs, c3.rel.disj _ _ pDs, no pIs, no pDs, ?_⟩
      · have : x ∉ tgtNames t := fun q => by unfold restr at e; rw [if_pos q] at e; cases e
        rw [hl x this]; exact e
      · exact it.frame _ _ _ st1 (fun o e => by rw [hoI'] at e; cases e; exact c3.rel.keepP _ _ pIs) (fun a o e => c1.rel.keepG a o e) (fun a o e => c3.rel.keepG a o (e3 a o e))
    refine snd_target S hi hs c2 rv hb1 fun s2 c3 e2 => ?_
    refine htest env A P2 G own loc1 hp s2 _ _ _ c3 S hw fun b hp3 G3 s3 hk3 p3 => ?_
    have c4 := c3.step p3
    have hs3 : Same s0 s3 := hsm.trans (Same.trans ⟨_, _, rfl⟩ (e2.trans p3.same))
    have hil' : i + 1 + rest.length = all.length := by rw [List.length_cons] at hil; exact by rw [Nat.add_right_comm]; exact hil
    cases b with
    | false =>
      simp only [Bool.false_eq_true, if_false] at hk3 ⊢
      obtain ⟨b1, b2, b3, b4, b5, b6, b7⟩ := back c4 p3.ext hs3 fun y hy => bindT_off hb1 hy
      exact ih (i + 1) acc hp3 G3 s3 items m hd' hil' b1 (hg.trans p3.ext) hs3 (it.mono p3.ext) b7 b3 b5 b4 b6 b2 (hacc.mono p3.ext) (by rw [List.length_cons] at hsz; exact Nat.le_of_lt hsz) hk3
    | true =>
      simp only [if_true] at hk3 ⊢
      refine hel env A P2 G3 own loc1 hp3 s3 _ _ _ c4 S hk3 fun u y hp4 G4 s4 hk4 ru p4 => ?_
      have c5 := c4.step p4
      have e4 : Ext G G4 := p3.ext.trans p4.ext
      have hs4 : Same s0 s4 := hs3.trans p4.same
      obtain ⟨b1, b2, b3, b4, b5, b6, b7⟩ := back c5 e4 hs4 fun y hy => bindT_off hb1 hy
      refine append_raw b2 (by rw [hacc.size]; rw [sizeLine_eq]; rw [List.length_cons] at hsz; unfold SZ at hsz; exact Nat.le_trans (Nat.le_of_add_right_le hsz) (by decide)) fun h5 m5 k5 k6 => ?_
      have c6 := b1.step (Post.growBut (t := s4.toks) b1.rel hPD b4 hoD b6 (h' := h5) fun b hb o e => (k5 b hb).trans e)
      refine ih (i + 1) (acc ++ [y]) hp4 G4 _ (items.push u) m5 hd' hil' c6 (hg.trans e4) (hs4.trans ⟨_, _, rfl⟩) (it.mono e4) ?_ b3 b5 b4 b6 k6 (by rw [Array.toList_push]; exact (hacc.mono e4).append (.cons ru .nil)) (by rw [List.length_append]; rw [List.length_cons] at hsz; simp; exact by rw [Nat.add_right_comm]; exact hsz) hk4
      exact (it.mono e4).frame _ _ _ b7 (fun o e => (k5 I hID).trans e) b1.rel.keepG c6.rel.keepG

end
end Mine
end
section
set_option Elab.async false
set_option maxRecDepth 100000
set_option linter.unusedVariables false
namespace Mine
open PySem PySem.W PySem.Calls PyProof.Rows PySem.MeetsSeq

noncomputable def tgtHas (t : Tgt) (x : Str) : Bool := (tgtNames t).any fun y => Str.ofString y == x
noncomputable def compOk (scope sc : Scope) (t : Tgt) : Bool :=
  scope.kind == .function && sc.kind == .function &&
  scope.names.all (fun x => x.2 != .cell && (x.2 != .local || (scope.names.lookup x.1 == some .local && (tgtHas t x.1 || x.1 == Str.ofString ".0"))) && (x.2 != .free || (sc.names.lookup x.1 == some .cell))) &&
  (tgtNames t).all (fun y => scope.names.lookup (Str.ofString y) == some .local)

theorem lookup_mem {A B : Type} [BEq A] [LawfulBEq A] : ∀ {l : List (A × B)} {x : A} {y : B}, l.lookup x = some y → (x, y) ∈ l
  | [], x, y, h => by simp at h
  | (a, b) :: r, x, y, h => by
    rw [List.lookup_cons] at h
    split at h
    · rename_i e; cases h; rw [eq_of_beq e]; exact List.mem_cons_self
    · exact List.mem_cons_of_mem _ (lookup_mem h)

theorem cloS_names {cells : List (Str × Addr)} : ∀ {names : List (Str × NameKind)} {acc cl : List (Str × Addr)}, cloS cells names acc = some cl → ∀ x c, cl.lookup x = some c → (∃ c, acc.lookup x = some c) ∨ (x, NameKind.free) ∈ names
  | [], acc, cl, e => by cases e; exact fun x c h => .inl ⟨c, h⟩
  | (n, k) :: r, acc, cl, e => by
    intro x c hx
    unfold cloS at e
    split at e
    · rename_i hk
      split at e
      · rename_i a _
        rcases cloS_names e x c hx with ⟨c', q⟩ | q
        · rw [List.lookup_cons] at q
          split at q
          · rename_i hxn
            right
            rw [eq_of_beq hxn, eq_of_beq hk]; exact List.mem_cons_self
          · exact .inl ⟨c', q⟩
        · exact .inr (List.mem_cons_of_mem _ q)
      · cases e
    · exact (cloS_names e x c hx).imp id (List.mem_cons_of_mem _)

structure CompOk (scope sc : Scope) (t : Tgt) : Prop where
  k1 : scope.kind = .function
  k2 : sc.kind = .function
  nc : ∀ x ∈ scope.names, x.2 ≠ .cell
  lo : ∀ x ∈ scope.names, x.2 = .local → scope.names.lookup x.1 = some .local
  lt : ∀ x ∈ scope.names, x.2 = .local → tgtHas t x.1 = true ∨ x.1 = Str.ofString ".0"
  fr : ∀ x ∈ scope.names, x.2 = .free → sc.names.lookup x.1 = some .cell
  tg : ∀ y ∈ tgtNames t, scope.names.lookup (Str.ofString y) = some .local
theorem compOk_ok {scope sc : Scope} {t : Tgt} (h : compOk scope sc t = true) : CompOk scope sc t := by
  unfold compOk at h
  simp only [Bool.and_eq_true, List.all_eq_true, beq_iff_eq, bne_iff_ne, Bool.or_eq_true, ne_eq] at h
  obtain ⟨⟨⟨a, b⟩, c⟩, d⟩ := h
  refine ⟨a, b, fun x hx => (c x hx).1.1, fun x hx e => ?_, fun x hx e => ?_, fun x hx e => ?_, d⟩
  · rcases (c x hx).1.2 with q | q
    · exact absurd e q
    · exact q.1
  · rcases (c x hx).1.2 with q | q
    · exact absurd e q
    · exact q.2
  · rcases (c x hx).2 with q | q
    · exact absurd e q
    · exact q

theorem CompOk.kindLocal {scope sc : Scope} {t : Tgt} (k : CompOk scope sc t) {x : Str} (h : (relabelS scope sc).names.lookup x = some .local) : tgtHas t x = true ∨ x = Str.ofString ".0" := by
  unfold relabelS at h
  rw [lookup_relS] at h
  obtain ⟨q, h1, h2⟩ := Option.map_eq_some_iff.mp h
  split at h2
  · cases h2
  · subst h2; exact k.lt _ (lookup_mem h1) rfl
theorem CompOk.kindCell {scope sc : Scope} {t : Tgt} (k : CompOk scope sc t) {x : Str} (h : (relabelS scope sc).names.lookup x = some .cell) : (x, NameKind.free) ∈ scope.names ∧ sc.names.lookup x = some .cell := by
  unfold relabelS at h
  rw [lookup_relS] at h
  obtain ⟨q, h1, h2⟩ := Option.map_eq_some_iff.mp h
  split at h2
  · rename_i e
    simp only [Bool.and_eq_true, beq_iff_eq] at e
    obtain ⟨⟨rfl, _⟩, e⟩ := e
    exact ⟨lookup_mem h1, e⟩
  · subst h2; exact absurd rfl (k.nc _ (lookup_mem h1))
theorem CompOk.tgtLocal {scope sc : Scope} {t : Tgt} (k : CompOk scope sc t) {y : String} (h : y ∈ tgtNames t) : (relabelS scope sc).names.lookup (Str.ofString y) = some .local := by
  unfold relabelS
  rw [lookup_relS, k.tg y h]
  simp

section
variable {prog : Program} {w : World} {cl : String → Nat} {h0 : Heap} {n : Nat} {sc : Scope} {env : Env} {A : Around} {P P2 G G' G2 : Tab} {own own2 : Nat → Prop} {loc loc' : Loc} {hp hp' hp2 : HP} {h h' h2 : Heap} {s s' : Shared}
  {Q : Value → Shared → Prop} {E : Value → Shared → Prop} {K : AV → HP → Prop} {F : Frag}

theorem comp_ctx {scope : Scope} {t : Tgt} {cs : List (Str × Addr)} {C : Nat} {tk : Nat} {m : Str → Option Value} (k : CompOk scope sc t) (c : Ctx prog w cl h0 n sc env A P G own loc hp s) (S : EnvS env)
    (hcs : cloS env.cells scope.names [] = some cs) (hC : s.heap.get? C = none) (hh : ∀ b o, s.heap.get? b = some o → h'.get? b = some o) (hn : h'.Ns C m) :
    Ctx prog w cl h0 n (relabelS scope sc) (compEnvC scope cs C env) A (prot P own s.heap) G (fun a => a = C) (restr t loc) hp { s with heap := h', toks := tk } ∧ EnvS (compEnvC scope cs C env) := by
  have hsub := cloS_sub hcs (fun x c e => by simp at e)
  have hlk : ∀ {x : Str} {c : Nat}, (x, NameKind.free) ∈ scope.names → env.cells.lookup x = some c → cs.lookup x = some c := fun {x c} hx e => by
    obtain ⟨c', h'⟩ := cloS_has hcs x hx
    rw [hsub _ _ h'] at e; cases e; exact h'
  have hcell : ∀ x, Env.kindOf (compEnvC scope cs C env) x = some .cell → env.kindOf x = some .cell ∧ (x, NameKind.free) ∈ scope.names := fun x e => by
    have e' : (relabelS scope sc).names.lookup x = some .cell := by rw [← relabel_eq c.sc]; exact e
    obtain ⟨a, b⟩ := k.kindCell e'
    exact ⟨by unfold Env.kindOf; rw [c.sc]; exact b, a⟩
  refine ⟨⟨relabel_eq c.sc, c.aok, fun a o e => (c.base a o e).imp (prot_sub c.rel a o) id, c.rel.down hh fun a e => ?_, ⟨k.k1, c.eok.glob, c.eok.blt, ⟨m, hn⟩, rfl, fun x e => ?_⟩, fun x v e hv => ?_⟩, ⟨fun x y q a b => S.inj _ _ _ (hsub _ _ a) (hsub _ _ b), fun x q a hq => ?_⟩⟩
  · subst e
    refine ⟨hC, ?_⟩
    obtain ⟨o, _, _, ho, _⟩ := hn; exact ⟨o, ho⟩
  · obtain ⟨e1, e2⟩ := hcell x e
    obtain ⟨q, v, h1, ⟨o, ho, hd⟩, h3⟩ := c.eok.cell x e1
    refine ⟨q, v, hlk e2 h1, ⟨o, hh _ _ ho, hd⟩, .inr ?_⟩
    rcases h3 with h3 | ⟨o', h3⟩
    · exact prot_has c.rel q h3
    · exact ⟨o', prot_sub c.rel _ _ h3⟩
  · obtain ⟨hv, hne⟩ := hv
    have hnt : x ∉ tgtNames t := fun q => by unfold restr at e; rw [if_pos q] at e; cases e
    have hlx : loc x = some v := by unfold restr at e; rwa [if_neg hnt] at e
    rcases hv with hv | hv
    · have e' : (relabelS scope sc).names.lookup (Str.ofString x) = some .local := by rw [← relabel_eq c.sc]; exact hv
      rcases k.kindLocal e' with q | q
      · unfold tgtHas at q
        rw [List.any_eq_true] at q
        obtain ⟨y, hy, hyx⟩ := q
        exact absurd (by rw [← ofString_inj (eq_of_beq hyx)]; exact hy) hnt
      · exact absurd (ofString_inj q) hne
    · obtain ⟨e1, e2⟩ := hcell _ hv
      obtain ⟨u, hu, ru⟩ := c.lok x v hlx ⟨.inr e1, hne⟩
      refine ⟨u, ?_, ru⟩
      rcases hu with ⟨k1, _⟩ | ⟨k1, q, hq, o, ho, hd⟩
      · rw [e1] at k1; cases k1
      · exact .inr ⟨hv, q, hlk e2 hq, o, hh _ _ ho, hd⟩
  · subst hq
    rcases cloS_names hcs _ _ a with ⟨_, q⟩ | q
    · simp at q
    · have e1 : env.kindOf x = some .cell := by unfold Env.kindOf; rw [c.sc]; exact k.fr _ q rfl
      obtain ⟨q', v, h1, ⟨o, ho, _⟩, _⟩ := c.eok.cell x e1
      rw [hsub _ _ a] at h1
      cases h1
      exact nomatch (show (none : Option Obj) = some o from hC.symm.trans ho)

theorem snd_comp {elt te iterE : Expr} {ifs : List Expr} {scope : Scope} {pos pos2 : Pos} {t : Tgt} {WIt WEl : WE} {cond : Loc → HP → (Bool → HP → Prop) → Prop} {use : Option (Value → Sem Unit)}
    (k : CompOk scope sc t) (hss : ∀ x, foldedSetIterable iterE env x = pure x) (hit : SE prog w cl h0 n sc iterE WIt) (hel : SE prog w cl h0 n (relabelS scope sc) elt WEl) (htest : STs prog w cl h0 n (relabelS scope sc) ifs cond) (hi : isTgt t te = true)
    (c : Ctx prog w cl h0 n sc env A P G own loc hp s) (S : EnvS env)
    (hw : WIt loc hp fun x hp1 => ∃ xs, itemsOf x = some xs ∧ xs.length ≤ SZ ∧ wpComp t loc cond WEl xs [] hp1 K)
    (fin : ∀ xs hp' G' s' D C m, K (.fl xs) hp' → RV prog w cl G' (.ref D) (.fl xs) → Post prog w cl P G own s G' hp' s' → s'.heap.Ns C m → P C = none → G' C = none → ¬ own C → hp' C = none →
      compPost (model prog w) A E use Q (.ref D) C (.ok .next) s') :
    wpAny (model prog w) A (comprehension (.ListComp elt [⟨te, iterE, ifs, 0⟩] scope pos) scope env pos2 (newList []) false (eval iterE env) use) Q E s := by
  have hfree : ∀ x ∈ scope.names, x.2 = .free → ∃ a, env.cells.lookup x.1 = some a := fun x hx e => by
    have e1 : env.kindOf x.1 = some .cell := by unfold Env.kindOf; rw [c.sc]; exact k.fr _ hx e
    obtain ⟨q, _, h1, _⟩ := c.eok.cell _ e1
    exact ⟨q, h1⟩
  obtain ⟨cs, hcs⟩ := cloS_some (acc := []) hfree
  refine wpAny_comprehension_free rfl hss (closure_eq hcs) k.k1 (fun x hx e => k.lo x hx e) ?_
  refine hit env A P G own loc hp s _ _ _ c S hw fun v x hp1 G1 s1 ⟨xs, hxs, hsz, hw⟩ rv p1 => ?_
  have c1 := c.step p1
  refine iter_start p1.rel rv hxs c.aok.handled fun oI St hfr it st => ?_
  have p2 : Post prog w cl P G1 own s1 G1 hp1 { s1 with heap := s1.heap.push oI } := Post.growTo (t := s1.toks) p1.rel fun b o e => Heap.get?_push_of_some _ e
  have c2 := c1.step p2
  generalize hI : s1.heap.objs.size = I at it
  have hI1 : s1.heap.get? I = none := none_of_size (by rw [hI]; exact Nat.le_refl _)
  have hI2 : (s1.heap.push oI).get? I = some oI := by rw [← hI]; exact Heap.get?_push_size _ hfr
  generalize hs2 : ({ s1 with heap := s1.heap.push oI } : Shared) = s2 at c2 p2
  have e2h : s2.heap = s1.heap.push oI := by rw [← hs2]
  rw [← e2h] at hI2 st
  refine wpAny_newObj_type (wpAny_newFunctionEnv k.nc (by intro y hy; simp at hy) (fun h₁ hns₁ hsb₁ => ?_) k.k1)
  dsimp only at hns₁ hsb₁ ⊢
  generalize hH2 : s2.heap.push { cls := .type "list", dict := none, data := .seq ([] : List Value).toArray } = H2 at hns₁ hsb₁ ⊢
  have hCs : H2.objs.size = s2.heap.objs.size + 1 := by rw [← hH2, Heap.size_push]
  generalize hD : s2.heap.objs.size = D at *
  generalize hC : H2.objs.size = C at *
  have hDC : D ≠ C := by exact Nat.ne_of_lt (Nat.le_of_eq (Eq.symm hCs))
  have fD : s2.heap.get? D = none := none_of_size (by exact Nat.le_of_eq hD)
  have fC : s2.heap.get? C = none := none_of_size (by omega)
  have old : ∀ b o, s2.heap.get? b = some o → h₁.get? b = some o := fun b o e => hsb₁.extBut b o (fun q => by rw [q, fC] at e; cases e) (Heap.get?_push_of_some _ (hH2 ▸ Heap.get?_push_of_some _ e))
  have hDo : h₁.get? D = some { cls := .type "list", dict := none, data := .seq #[] 0 } := hsb₁.extBut _ _ hDC (Heap.get?_push_of_some _ (by rw [← hH2, ← hD]; exact Heap.get?_push_size _ rfl))
  obtain ⟨c3, S3⟩ := comp_ctx (tk := s2.toks + ([] : List (Str × Value)).length) k c2 S hcs fC old hns₁
  have ext1 : Ext G G1 := p1.ext
  have gI : G1 I = none := p1.rel.freshG hI1
  have hpI : hp1 I = none := p1.rel.freshH hI1
  have oI' : ¬ own I := p1.rel.freshO hI1
  have pI : P I = none := p1.rel.freshP hI1
  have hIC : I ≠ C := fun q => by rw [q, fC] at hI2; cases hI2
  have hID : I ≠ D := fun q => by rw [q, fD] at hI2; cases hI2
  have R2 : RelH prog w cl P G1 own hp1 s2.heap := p2.rel
  have st3 : St 0 h₁ := it.frame _ _ _ st (fun o e => old _ _ e) R2.keepG (fun a o e => old _ _ (R2.keepG a o e))
  have prot_none : ∀ {a : Nat}, ¬ own a → P a = none → prot P own s2.heap a = none := fun {a} q e => by rw [prot_P q]; exact e
  have loop : ∀ s3 : Shared, s3 = { s2 with heap := h₁, toks := s2.toks + ([] : List (Str × Value)).length } →
      codeAny (model prog w) A (.compLoop (.ListComp elt [⟨te, iterE, ifs, 0⟩] scope pos) 0 (.ref I) (.ref D) (compEnvC scope cs C env)) (compPost (model prog w) A E use Q (.ref D) C) s3 := by
    intro s3 e3
    rw [← e3] at c3
    have e3h : s3.heap = h₁ := by rw [e3]
    refine snd_comp_loop (s0 := s3) (G0 := G1) S3 hi (fun x hx => .inl ?_) hel htest hID (prot_none oI' pI) hIC (prot_none (R2.freshO fD) (R2.freshP fD)) hDC ?_ xs 0 [] hp1 G1 s3 #[] 0 rfl (by simp) c3 (Ext.refl _) (Same.refl _) it (by rw [e3h]; exact st3) gI hpI (R2.freshG fD) (R2.freshH fD) (by rw [e3h]; exact hDo) .nil (by simpa using hsz) hw
    · show (relabel scope env).names.lookup _ = _
      rw [relabel_eq c.sc]; exact k.tgtLocal hx
    · intro ys hp4 G4 s4 items m hk e4 sm4 c4 hD4 hys gD4 pD4
      have R4 := RelH.up R2 c4.rel (prot_sub R2) (prot_has R2)
      have nPD : P D = none := R2.freshP fD
      have noD : ¬ own D := R2.freshO fD
      have R5 := R4.addG hD4 gD4 nPD noD pD4 (by intro _ h; injection h with h; exact absurd h (by decide))
      have e5 : Ext G4 (G4.set D { cls := .type "list", data := .seq items m }) := Tab.ext_set gD4
      have ownC := c4.rel.ownD C rfl
      obtain ⟨mC, hnC⟩ := c4.eok.ns
      refine fin ys hp4 _ s4 D C mC hk (.fl Tab.set_self (hys.mono e5)) ?_ hnC (R2.freshP fC) (by rw [Tab.set_ne (Ne.symm hDC)]; exact ownC.2.2) (R2.freshO fC) ?_
      · refine (p1.trans p2).trans ⟨e4.trans e5, R5, fun a qa => ?_, ?_⟩
        · obtain ⟨⟨o, ho⟩, _⟩ := R2.ownD a qa
          rw [ho]
          exact c4.rel.keepP a o (by rw [prot_own qa]; exact ho)
        · obtain ⟨h4, t4, e⟩ := sm4
          rw [e, e3]; exact ⟨_, _, rfl⟩
      · cases z : hp4 C with
        | none => rfl
        | some y => exact absurd rfl (c4.rel.ok _ _ z).2.2.2
  exact codeAny_compStart_list (loop _ rfl) (it.self A 0 _ _ _ c.aok.handled st3 (loop _ rfl))

end
end Mine
end
section
set_option Elab.async false
set_option maxRecDepth 100000
set_option linter.unusedVariables false
namespace Mine
open PySem PySem.W PySem.Calls PyProof.Rows PySem.MeetsSeq

noncomputable def visOk (sc : Scope) (x : String) : Bool :=
  (sc.names.lookup (Str.ofString x) == some .local || sc.names.lookup (Str.ofString x) == some .cell) && decide (x ≠ ".0") && !(Str.ofString x == Str.ofString "__debug__")

section
variable {prog : Program} {w : World} {cl : String → Nat} {h0 : Heap} {n : Nat} {sc : Scope} {env : Env} {A : Around} {P P2 G G' G2 : Tab} {own own2 : Nat → Prop} {loc loc' : Loc} {hp hp' hp2 : HP} {h h' h2 : Heap} {s s' : Shared}
  {Q : Value → Shared → Prop} {Er : Value → Shared → Prop} {K : AV → HP → Prop} {F : Frag} {C : CallSem}

theorem se_int {i : Int} {k : Nat} {pos : Pos} : SE prog w cl h0 n sc (.Constant (.int i) k pos) (wpE C (.int i)) := fun env A P G own loc hp s K Q E c S hw k =>
  wpAny_Constant_int (k _ _ _ _ _ (hw) (.int _ _) (Post.tok c.rel _))
theorem se_bool {i : Bool} {k : Nat} {pos : Pos} : SE prog w cl h0 n sc (.Constant (.bool i) k pos) (wpE C (.bool i)) := fun env A P G own loc hp s K Q E c S hw k =>
  wpAny_Constant_bool (k _ _ _ _ _ (hw) (.bool _) (Post.refl c.rel))
theorem se_str {i : String} {k : Nat} {pos : Pos} : SE prog w cl h0 n sc (.Constant (.str (Str.ofString i)) k pos) (wpE C (.str i)) := fun env A P G own loc hp s K Q E c S hw k =>
  wpAny_Constant_str (k _ _ _ _ _ (hw) (.str _ _) (Post.tok c.rel _))

theorem visOk_vis {x : String} (c : Ctx prog w cl h0 n sc env A P G own loc hp s) (h : visOk sc x = true) : Vis env x ∧ (Str.ofString x == ("__debug__" : Str)) = false := by
  unfold visOk at h
  simp only [Bool.and_eq_true, Bool.or_eq_true, beq_iff_eq, decide_eq_true_eq, Bool.not_eq_true'] at h
  obtain ⟨⟨a, b⟩, d⟩ := h
  refine ⟨⟨?_, b⟩, d⟩
  unfold Env.kindOf
  rw [c.sc]; exact a

theorem se_var {x : String} {pos : Pos} (h : visOk sc x = true) : SE prog w cl h0 n sc (.Name (Str.ofString x) pos) (wpE C (.var x)) := fun env A P G own loc hp s K Q E c S hw k => by
  conv at hw => whnf
  obtain ⟨v, e, hk⟩ := hw
  obtain ⟨h1, h2⟩ := visOk_vis c h
  exact var_eval c e h1 h2 fun u r => k _ _ _ _ _ hk r (Post.refl c.rel)

theorem se_bin {op : Op2} {op' : Operator} {l r : E} {le re : Expr} {pos : Pos} (hl : SE prog w cl h0 n sc le (wpE C l)) (hr : SE prog w cl h0 n sc re (wpE C r))
    (ho : op' = opOf op := by rfl) :
    SE prog w cl h0 n sc (.BinOp le op' re pos) (wpE C (.bin op l r)) := fun env A P G own loc hp s K Q E c S hw k => by
  conv at hw => whnf
  exact wpAny_BinOp (hl env A P G own loc hp s _ _ _ c S hw fun u x hp1 G1 s1 hw1 ru p1 => hr env A P G1 own loc hp1 s1 _ _ _ (c.step p1) S hw1 fun v y hp2 G2 s2 hw2 rv p2 =>
    snd_bin ho p2.rel (ru.mono p2.ext) rv hw2 (k.after (p1.trans p2)))

theorem se_neg {e : E} {ee : Expr} {pos : Pos} (he : SE prog w cl h0 n sc ee (wpE C e)) : SE prog w cl h0 n sc (.UnaryOp .USub ee pos) (wpE C (.neg e)) := fun env A P G own loc hp s K Q E c S hw k => by
  conv at hw => whnf
  refine wpAny_UnaryOp (he env A P G own loc hp s _ _ _ c S hw fun u x hp1 G1 s1 hw1 ru p1 => ?_)
  cases x <;> first | exact hw1.elim | skip
  obtain ⟨t, rfl⟩ := ru.int_inv
  exact PyProof.Rows.neg_int (k _ _ _ _ _ hw1 (.int _ _) (p1.trans (Post.tok p1.rel _)))

theorem tv_bool {K : Bool → HP → Prop} {x : AV} {hp : HP} (h : tv K x hp) : ∃ b, x = .bool b ∧ K b hp := by
  cases x <;> first | exact h.elim | exact ⟨_, rfl, h⟩

theorem st_val {e : E} {ee : Expr} (he : SE prog w cl h0 n sc ee (wpE C e)) (hs : ∀ env whole, isTrue ee env whole = (do let v ← whole; standAt ee.pos; holding [v] (truthy v)) := by exact fun _ _ => rfl) :
    ST prog w cl h0 n sc ee (wpE C e) := fun env A P G own loc hp s K Q E c S hw k => by
  refine wpAny_isTrue_value (he env A P G own loc hp s _ _ _ c S hw fun u x hp1 G1 s1 hw1 ru p1 => ?_) (hs _ _)
  obtain ⟨b, rfl, hk⟩ := tv_bool hw1
  obtain rfl := ru.bool_inv
  exact wpAny_truthy_bool (k _ _ _ _ hk p1)

theorem se_cmp {op : Cmp} {op' : CmpOp} {l r : E} {le re : Expr} {pos : Pos} (hl : SE prog w cl h0 n sc le (wpE C l)) (hr : SE prog w cl h0 n sc re (wpE C r))
    (ho : op' = cmOf op := by rfl)
    (hm : behindInMarks op' re = false := by with_unfolding_all rfl) :
    SE prog w cl h0 n sc (.Compare le [op'] [re] pos) (wpE C (.cmp op l r)) := fun env A P G own loc hp s K Q E c S hw k => by
  conv at hw => whnf
  exact wpAny_Compare1 (hl env A P G own loc hp s _ _ _ c S hw fun u x hp1 G1 s1 hw1 ru p1 => hr env A P G1 own loc hp1 s1 _ _ _ (c.step p1) S hw1 fun v y hp2 G2 s2 hw2 rv p2 =>
    snd_cmp ho p2.rel c.aok (ru.mono p2.ext) rv hw2 fun b t hk => k _ _ _ _ _ hk (.bool b) ((p1.trans p2).trans (Post.tok p2.rel t))) hm

theorem st_cmp {op : Cmp} {op' : CmpOp} {l r : E} {le re : Expr} {pos : Pos} (hl : SE prog w cl h0 n sc le (wpE C l)) (hr : SE prog w cl h0 n sc re (wpE C r))
    (ho : op' = cmOf op := by rfl)
    (hm : behindInMarks op' re = false := by with_unfolding_all rfl) :
    ST prog w cl h0 n sc (.Compare le [op'] [re] pos) (wpE C (.cmp op l r)) := fun env A P G own loc hp s K Q E c S hw k => by
  conv at hw => whnf
  exact wpAny_isTrue_Compare1 (hl env A P G own loc hp s _ _ _ c S hw fun u x hp1 G1 s1 hw1 ru p1 => hr env A P G1 own loc hp1 s1 _ _ _ (c.step p1) S hw1 fun v y hp2 G2 s2 hw2 rv p2 =>
    snd_cmp ho p2.rel c.aok (ru.mono p2.ext) rv hw2 fun b t hk => wpAny_truthy_bool (k _ _ _ _ hk ((p1.trans p2).trans (Post.tok p2.rel t)))) hm

theorem st_not {e : E} {ee : Expr} {pos : Pos} (he : ST prog w cl h0 n sc ee (wpE C e)) : ST prog w cl h0 n sc (.UnaryOp .Not ee pos) (wpE C (.not_ e)) := fun env A P G own loc hp s K Q E c S hw k => by
  conv at hw => whnf
  exact wpAny_isTrue_Not (he env A P G own loc hp s _ _ _ c S hw fun b hp1 G1 s1 hk p => k _ _ _ _ hk p)

theorem st_and {l r : E} {le re : Expr} {pos : Pos} (hl : ST prog w cl h0 n sc le (wpE C l)) (hr : ST prog w cl h0 n sc re (wpE C r)) : ST prog w cl h0 n sc (.BoolOp .And [le, re] pos) (wpE C (.and_ l r)) :=
  fun env A P G own loc hp s K Q E c S hw k => by
  conv at hw => whnf
  refine wpAny_isTrue_BoolOp (wpAny_allTrue_And_cons (hl env A P G own loc hp s _ _ _ c S hw fun b hp1 G1 s1 hk p => ?_))
  cases b with
  | false => exact k _ _ _ _ (by simp only [Bool.false_eq_true, if_false] at hk; exact hk) p
  | true =>
    simp only [if_true] at hk ⊢
    refine wpAny_allTrue_And_cons (hr env A P G1 own loc hp1 s1 _ _ _ (c.step p) S hk fun b hp2 G2 s2 hk2 p2 => ?_)
    cases b with
    | false => exact k _ _ _ _ hk2 (p.trans p2)
    | true => exact wpAny_allTrue_And_nil (k _ _ _ _ hk2 (p.trans p2))

theorem st_or {l r : E} {le re : Expr} {pos : Pos} (hl : ST prog w cl h0 n sc le (wpE C l)) (hr : ST prog w cl h0 n sc re (wpE C r)) : ST prog w cl h0 n sc (.BoolOp .Or [le, re] pos) (wpE C (.or_ l r)) :=
  fun env A P G own loc hp s K Q E c S hw k => by
  conv at hw => whnf
  refine wpAny_isTrue_BoolOp (wpAny_allTrue_Or_cons (hl env A P G own loc hp s _ _ _ c S hw fun b hp1 G1 s1 hk p => ?_))
  cases b with
  | true => exact k _ _ _ _ (by simp only [if_true] at hk; exact hk) p
  | false =>
    simp only [Bool.false_eq_true, if_false] at hk ⊢
    refine wpAny_allTrue_Or_cons (hr env A P G1 own loc hp1 s1 _ _ _ (c.step p) S hk fun b hp2 G2 s2 hk2 p2 => ?_)
    cases b with
    | true => exact k _ _ _ _ hk2 (p.trans p2)
    | false => exact wpAny_allTrue_Or_nil (k _ _ _ _ hk2 (p.trans p2))

theorem se_and {l r : E} {le re : Expr} {pos : Pos} (hl : SE prog w cl h0 n sc le (wpE C l)) (hr : SE prog w cl h0 n sc re (wpE C r)) : SE prog w cl h0 n sc (.BoolOp .And [le, re] pos) (wpE C (.and_ l r)) :=
  fun env A P G own loc hp s K Q E c S hw k => by
  conv at hw => whnf
  refine wpAny_And2 (hl env A P G own loc hp s _ _ _ c S hw fun u x hp1 G1 s1 hk ru p => ?_)
  obtain ⟨b, rfl, hk'⟩ := tv_bool hk
  clear hk
  have hk := hk'
  obtain rfl := ru.bool_inv
  refine wpAny_truthy_bool ?_
  cases b with
  | false => exact k _ _ _ _ _ (by simpa only [Bool.false_eq_true, if_false] using hk) (.bool _) p
  | true =>
    simp only [if_true] at hk ⊢
    refine hr env A P G1 own loc hp1 s1 _ _ _ (c.step p) S hk fun u2 x2 hp2 G2 s2 hk2 ru2 p2 => ?_
    obtain ⟨b, rfl, hk2⟩ := tv_bool hk2
    exact k _ _ _ _ _ hk2 ru2 (p.trans p2)

theorem se_or {l r : E} {le re : Expr} {pos : Pos} (hl : SE prog w cl h0 n sc le (wpE C l)) (hr : SE prog w cl h0 n sc re (wpE C r)) : SE prog w cl h0 n sc (.BoolOp .Or [le, re] pos) (wpE C (.or_ l r)) :=
  fun env A P G own loc hp s K Q E c S hw k => by
  conv at hw => whnf
  refine wpAny_Or2 (hl env A P G own loc hp s _ _ _ c S hw fun u x hp1 G1 s1 hk ru p => ?_)
  obtain ⟨b, rfl, hk'⟩ := tv_bool hk
  clear hk
  have hk := hk'
  obtain rfl := ru.bool_inv
  refine wpAny_truthy_bool ?_
  cases b with
  | true => exact k _ _ _ _ _ (by simpa only [if_true] using hk) (.bool _) p
  | false =>
    simp only [Bool.false_eq_true, if_false] at hk ⊢
    refine hr env A P G1 own loc hp1 s1 _ _ _ (c.step p) S hk fun u2 x2 hp2 G2 s2 hk2 ru2 p2 => ?_
    obtain ⟨b, rfl, hk2⟩ := tv_bool hk2
    exact k _ _ _ _ _ hk2 ru2 (p.trans p2)

theorem se_ite {t a b : E} {te ae be : Expr} {pos : Pos} (ht : ST prog w cl h0 n sc te (wpE C t)) (ha : SE prog w cl h0 n sc ae (wpE C a)) (hb : SE prog w cl h0 n sc be (wpE C b)) :
    SE prog w cl h0 n sc (.IfExp te ae be pos) (wpE C (.ite t a b)) := fun env A P G own loc hp s K Q E c S hw k => by
  conv at hw => whnf
  refine wpAny_IfExp (ht env A P G own loc hp s _ _ _ c S hw fun b hp1 G1 s1 hk p => ?_)
  cases b with
  | true => simp only [if_true] at hk ⊢; exact ha env A P G1 own loc hp1 s1 _ _ _ (c.step p) S hk (k.after p)
  | false => simp only [Bool.false_eq_true, if_false] at hk ⊢; exact hb env A P G1 own loc hp1 s1 _ _ _ (c.step p) S hk (k.after p)

variable (w cl h0) in
structure Facts0 where
  F : Frag
  inF : F.In h0
  cls : ∀ C ∈ clsNames, ClsOk F (cl C)

theorem Ctx.inF (f : Facts0 cl h0) (c : Ctx prog w cl h0 n sc env A P G own loc hp s) : f.F.In s.heap := fun a o e => by
  rcases c.base a o (f.inF a o e) with q | q
  · exact c.rel.keepP a o q
  · exact c.rel.keepG a o q

theorem se_attr (f : Facts0 cl h0) {e : E} {ee : Expr} {m : String} {pos : Pos} (he : SE prog w cl h0 n sc ee (wpE C e)) (hm : m ∈ attrNames := by decide) (hb : ∀ env whole, attributeBase ee (Str.ofString m) env whole = whole := by exact fun _ _ => rfl) :
    SE prog w cl h0 n sc (.Attribute ee (Str.ofString m) pos) (wpE C (.attr e m)) := fun env A P G own loc hp s K Q E c S hw k => by
  conv at hw => whnf
  refine Attribute_any_ (he env A P G own loc hp s _ _ _ c S hw fun u x hp1 G1 s1 ⟨v, hv, hk⟩ ru p => ?_) (by
    show (do let o ← attributeBase ee (Str.ofString m) env (eval ee env); _) = _
    rw [hb])
  exact snd_attr ((c.step p).inF f) f.cls p.rel ru hv hm fun y t ry => k _ _ _ _ _ hk ry (p.trans (Post.tok p.rel t))

theorem se_idx {e i : E} {ee ie : Expr} {pos : Pos} (he : SE prog w cl h0 n sc ee (wpE C e)) (hi : SE prog w cl h0 n sc ie (wpE C i)) (hs : ∀ a b, subscripted ie false a b = operate [a, b] (getItem a b) := by exact fun _ _ => rfl) :
    SE prog w cl h0 n sc (.Subscript ee ie pos) (wpE C (.idx e i)) := fun env A P G own loc hp s K Q E c S hw k => by
  conv at hw => whnf
  exact Subscript_ (he env A P G own loc hp s _ _ _ c S hw fun u x hp1 G1 s1 hw1 ru p1 => hi env A P G1 own loc hp1 s1 _ _ _ (c.step p1) S hw1 fun v y hp2 G2 s2 ⟨z, hz, hsm, hk⟩ rv p2 =>
    snd_idx p2.rel c.aok (ru.mono p2.ext) rv hz hsm hs fun q t rq => k _ _ _ _ _ hk rq ((p1.trans p2).trans (Post.tok p2.rel t)))

theorem se_upto {e hi : E} {ee he' : Expr} {pos p : Pos} (he : SE prog w cl h0 n sc ee (wpE C e)) (hh : SE prog w cl h0 n sc he' (wpE C hi)) (ht : ∀ o r, letTemporaryGo ee o r = pure () := by exact fun _ _ => rfl) :
    SE prog w cl h0 n sc (.Subscript ee (.Slice none (some he') none p) pos) (wpE C (.upto e hi)) := fun env A P G own loc hp s K Q E c S hw k => by
  conv at hw => whnf
  refine wpAny_Subscript_list_slice (he env A P G own loc hp s _ _ _ c S hw fun u x hp1 G1 s1 hw1 ru p1 => ?_) ht
  rw [evalPart_none, evalPart_some]
  refine wpAny_pure (hh env A P G1 own loc hp1 s1 _ _ _ (c.step p1) S hw1 fun v y hp2 G2 s2 hw2 rv p2 => ?_)
  obtain ⟨xs, m, hxs, rfl, h1, h2, h3, hk⟩ := hw2
  obtain ⟨t, rfl⟩ := rv.int_inv
  obtain ⟨a, items, k0, rfl, hl, rl⟩ := listAt p2.rel (ru.mono p2.ext) hxs
  obtain ⟨j, rfl⟩ : ∃ j : Nat, m = j := ⟨m.toNat, by exact (Int.toNat_of_nonneg h1).symm⟩
  refine ⟨a, items, none, some (j : Int), rfl, hl.isList, by rw [rl.size]; exact sz_line h3, .none, .int _ _, ?_⟩
  have f1 : s2.heap.get? (s2.heap.objs.size + 1) = none := none_of_size (by exact Nat.le_add_right _ _)
  rw [slicePick_upto']
  refine k _ _ _ _ _ hk (.fl (a := s2.heap.objs.size + 1) (items := (items.toList.take j).toArray) (n := 0) Tab.set_self ?_) ((p1.trans p2).trans (Post.newG (t := s2.toks) p2.rel (fun b o e => Heap.get?_push_of_some _ (Heap.get?_push_of_some _ e)) f1 ?_))
  · rw [show (j : Int).toNat = j from rfl]
    exact (rl.take j).mono (Tab.ext_set (p2.rel.freshG f1))
  · rw [show s2.heap.objs.size + 1 = (s2.heap.push { cls := .type "slice", data := .fields #[.none, .int (j : Int) t, .none] }).objs.size from (Heap.size_push ..).symm]
    exact Heap.get?_push_size _ rfl

end
end Mine
end
section
set_option Elab.async false
set_option maxRecDepth 100000
set_option linter.unusedVariables false
namespace Mine
open PySem PySem.W PySem.Calls PyProof.Rows PySem.MeetsSeq

noncomputable def keyOk : Expr → String → Bool
  | .Constant (.str x) _ _, k => x == Str.ofString k
  | _, _ => false
noncomputable def keyOkO : Option Expr → String → Bool
  | some e, k => keyOk e k
  | none, _ => false
noncomputable def keysOk : List (Option Expr) → List String → Bool
  | [], ks => ks.isEmpty
  | o :: r, ks => (match ks with | k :: ks => keyOkO o k && keysOk r ks | [] => false)
theorem keyOk_inv {e : Expr} {k : String} (h : keyOk e k = true) : ∃ a b, e = .Constant (.str (Str.ofString k)) a b := by
  unfold keyOk at h
  split at h
  · rw [beq_iff_eq] at h; subst h; exact ⟨_, _, rfl⟩
  · cases h
theorem keysOk_inv : ∀ {keys : List (Option Expr)} {ks : List String}, keysOk keys ks = true → (keys = [] ∧ ks = []) ∨ ∃ a b r k ks', keys = some (.Constant (.str (Str.ofString k)) a b) :: r ∧ ks = k :: ks' ∧ keysOk r ks' = true
  | [], [], _ => .inl ⟨rfl, rfl⟩
  | [], _ :: _, h => nomatch h
  | _ :: _, [], h => nomatch h
  | o :: r, k :: ks, h => by
    have h' : (keyOkO o k && keysOk r ks) = true := h
    rw [Bool.and_eq_true] at h'
    cases o with
    | none => exact nomatch h'.1
    | some e =>
      obtain ⟨a, b, rfl⟩ := keyOk_inv h'.1
      exact .inr ⟨a, b, r, k, ks, rfl, rfl, h'.2⟩

noncomputable def aPairs (pos : Pos) (env : Env) : List String → List (Option Expr) → List Expr → List (Sem Value × Sem Value)
  | k :: ks, some ke :: kes, e :: es => (eval ke env, do let x ← eval e env; standAt pos; pure x) :: aPairs pos env ks kes es
  | _, _, _ => []

theorem aMerge_apart {K V : Type} [DecidableEq K] : ∀ (more acc : List (K × V)), (more.map (·.1)).Nodup → (∀ x ∈ more, ∀ y ∈ acc, y.1 ≠ x.1) → aMerge acc more = acc ++ more
  | [], acc, _, _ => by simp [aMerge]
  | x :: more, acc, hn, hd => by
    rw [List.map_cons, List.nodup_cons] at hn
    have h1 : aPut acc x.1 x.2 = acc ++ [x] := by
      unfold aPut
      rw [if_neg]
      intro q
      rw [List.any_eq_true] at q
      obtain ⟨y, hy, e⟩ := q
      exact hd x List.mem_cons_self y hy (of_decide_eq_true e)
    show aMerge (aPut acc x.1 x.2) more = _
    rw [h1, aMerge_apart more (acc ++ [x]) hn.2, List.append_assoc]; rfl
    intro z hz y hy
    rcases List.mem_append.mp hy with hy | hy
    · exact hd z (List.mem_cons_of_mem _ hz) y hy
    · rw [List.mem_singleton] at hy
      subst hy
      intro e
      exact hn.1 (by rw [e]; exact List.mem_map_of_mem hz)

theorem zip_keys : ∀ {ks : List String} {ws : List AV}, ws.length = ks.length → (ks.zip ws).map (·.1) = ks
  | [], [], _ => rfl
  | k :: ks, w :: ws, h => by simp only [List.zip_cons_cons, List.map_cons, zip_keys (ks := ks) (ws := ws) (by simpa using h)]

section
variable {prog : Program} {w : World} {cl : String → Nat} {h0 : Heap} {n : Nat} {sc : Scope} {env : Env} {A : Around} {P P2 G G' G2 : Tab} {own own2 : Nat → Prop} {loc loc' : Loc} {hp hp' hp2 : HP} {h h' h2 : Heap} {s s' : Shared}
  {Q : Value → Shared → Prop} {Er : Value → Shared → Prop} {K : AV → HP → Prop} {F : Frag} {C : CallSem}

variable (prog w cl h0 n sc C) in
inductive SEsI : List Expr → Es → Prop
  | nil : SEsI [] .nil
  | cons {e : Expr} {e' : E} {es : List Expr} {es' : Es} : SE prog w cl h0 n sc e (wpE C e') → (∀ env, starEach (e :: es) env = (false, eval e env) :: starEach es env) → SEsI es es' → SEsI (e :: es) (.cons e' es')

theorem ses_spliced {es : List Expr} {es' : Es} (h : SEsI prog w cl h0 n sc C es es') : ∀ {A : Around} {P G : Tab} {hp : HP} {s : Shared} {K : List AV → HP → Prop} {Q : List Value → Shared → Prop} {pos : Pos},
    Ctx prog w cl h0 n sc env A P G own loc hp s → EnvS env → wpEs C es' loc hp K → (∀ vs xs hp' G' s', K xs hp' → RVs prog w cl G' vs xs → Post prog w cl P G own s G' hp' s' → Q vs s') →
    wpAny (model prog w) A (spliced (backTo pos (starEach es env))) Q Er s := by
  induction h with
  | nil =>
    intro A P G hp s K Q pos c S hw k
    conv at hw => whnf
    exact Calls.spliced_nil (k _ _ _ _ _ hw .nil (Post.refl c.rel))
  | @cons e e' es es' he hst _ ih =>
    intro A P G hp s K Q pos c S hw k
    conv at hw => whnf
    rw [hst]
    refine Calls.spliced_cons (he env A P G own loc hp s _ _ _ c S hw fun u x hp1 G1 s1 hw1 ru p1 => ?_)
    exact ih (c.step p1) S hw1 fun vs xs hp2 G2 s2 hk rs p2 => k _ _ _ _ _ hk (.cons (ru.mono p2.ext) rs) (p1.trans p2)

theorem freshList {vs : List Value} {T : String} (R : RelH prog w cl P G own hp s.heap) :
    Post prog w cl P G own s (G.set s.heap.objs.size { cls := .type T, data := .seq vs.toArray }) hp { s with heap := s.heap.push { cls := .type T, data := .seq vs.toArray } } ∧ Ext G (G.set s.heap.objs.size { cls := .type T, data := .seq vs.toArray }) := by
  have f1 : s.heap.get? s.heap.objs.size = none := none_of_size (Nat.le_refl _)
  exact ⟨Post.newG (t := s.toks) R (fun b o e => Heap.get?_push_of_some _ e) f1 (Heap.get?_push_size _ rfl) (fun q => absurd q (R.ne_size 0)), Tab.ext_set (R.freshG f1)⟩

theorem se_tup {es : List Expr} {es' : Es} {k : Nat} {pos : Pos} (hes : SEsI prog w cl h0 n sc C es es') : SE prog w cl h0 n sc (.Tuple es k pos) (wpE C (.tup es')) := fun env A P G own loc hp s K Q E c S hw k => by
  conv at hw => whnf
  refine wpAny_Tuple_spliced (ses_spliced hes c S hw fun vs xs hp1 G1 s1 ⟨hl, hk⟩ rs p1 => ⟨by rw [rs.length, sizeLine_eq]; exact Nat.le_trans ‹xs.length ≤ 100 ∧ K (AV.tup xs) hp1›.1 (Nat.le_add_left _ _), ?_⟩)
  obtain ⟨p2, e2⟩ := freshList (vs := vs) (T := "tuple") p1.rel
  exact k _ _ _ _ _ hk (.tup (items := vs.toArray) (n := 0) Tab.set_self (rs.mono e2)) (p1.trans p2)
theorem se_flist {es : List Expr} {es' : Es} {pos : Pos} (hes : SEsI prog w cl h0 n sc C es es') : SE prog w cl h0 n sc (.List es pos) (wpE C (.flist es')) := fun env A P G own loc hp s K Q E c S hw k => by
  conv at hw => whnf
  refine wpAny_List_spliced (ses_spliced hes c S hw fun vs xs hp1 G1 s1 ⟨hl, hk⟩ rs p1 => ⟨by rw [rs.length, sizeLine_eq]; exact Nat.le_trans ‹xs.length ≤ 100 ∧ K (AV.fl xs) hp1›.1 (Nat.le_add_left _ _), ?_⟩)
  obtain ⟨p2, e2⟩ := freshList (vs := vs) (T := "list") p1.rel
  exact k _ _ _ _ _ hk (.fl (items := vs.toArray) (n := 0) Tab.set_self (rs.mono e2)) (p1.trans p2)
theorem se_list {es : List Expr} {es' : Es} {pos : Pos} (hes : SEsI prog w cl h0 n sc C es es') : SE prog w cl h0 n sc (.List es pos) (wpE C (.list es')) := fun env A P G own loc hp s K Q E c S hw k => by
  conv at hw => whnf
  refine wpAny_List_spliced (ses_spliced hes c S hw fun vs xs hp1 G1 s1 ⟨hl, hk⟩ rs p1 => ⟨by rw [rs.length, sizeLine_eq]; exact Nat.le_trans ‹xs.length ≤ 100 ∧ ∀ (a : Nat), hp1 a = none → K (AV.ref a) (hp1.set a (AObj.list xs))›.1 (Nat.le_add_left _ _), ?_⟩)
  have f1 : s1.heap.get? s1.heap.objs.size = none := none_of_size (Nat.le_refl _)
  exact k _ _ _ _ _ (hk _ (p1.rel.freshH f1)) (.ref _) (p1.trans (Post.newH (t := s1.toks) p1.rel (fun b o e => Heap.get?_push_of_some _ e) f1 (Heap.get?_push_size _ rfl) (.list rs)))

theorem empty_isDictOf {K : Type} [DecidableEq K] (knd : KeyKind prog w K) : Obj.IsDictOf knd { cls := .type "dict", data := .dict #[] } [] := by
  obtain ⟨o, ho, hd⟩ := Heap.dictOf_iff.mp (Heap.DictOf.new (knd := knd) ({ objs := #[] } : Heap))
  rw [Heap.get?_push_size _ rfl] at ho
  cases ho; exact hd

theorem se_dict0 {tk : Bool} {pos : Pos} : SE prog w cl h0 n sc (.Dict [] [] pos) (wpE C (.dict0 tk)) := fun env A P G own loc hp s K Q E c S hw k => by
  conv at hw => whnf
  refine wpAny_Dict_empty ?_
  have f1 : s.heap.get? s.heap.objs.size = none := none_of_size (Nat.le_refl _)
  cases tk with
  | true => exact k _ _ _ _ _ (hw _ (c.rel.freshH f1)) (.ref _) (Post.newH (t := s.toks) c.rel (fun b o e => Heap.get?_push_of_some _ e) f1 (Heap.get?_push_size _ rfl) (.dT (cvs := []) ⟨rfl, rfl, rfl⟩ rfl rfl List.nodup_nil .nil) (fun q => absurd q (c.rel.ne_size 0)))
  | false => exact k _ _ _ _ _ (hw _ (c.rel.freshH f1)) (.ref _) (Post.newH (t := s.toks) c.rel (fun b o e => Heap.get?_push_of_some _ e) f1 (Heap.get?_push_size _ rfl) (.dI (cvs := []) (empty_isDictOf _) .nil) (fun q => absurd q (c.rel.ne_size 0)))

theorem dict_ctx {oD : Obj} (c : Ctx prog w cl h0 n sc env A P G own loc hp s) (hfr : oD.isFreed = false) :
    Ctx prog w cl h0 n sc env A (P.set s.heap.objs.size oD) G own loc hp { s with heap := s.heap.push oD } ∧
      (∀ {G1 : Tab} {hp1 : HP} {s1 : Shared} {t : Nat} {h' : Heap} {o' : Obj} {x : AObj}, Post prog w cl (P.set s.heap.objs.size oD) G own { s with heap := s.heap.push oD } G1 hp1 s1 → Heap.SameBut s.heap.objs.size s1.heap h' → h'.get? s.heap.objs.size = some o' → RO prog w cl G1 o' x →
        hp1 s.heap.objs.size = none ∧ Post prog w cl P G own s G1 (hp1.set s.heap.objs.size x) { s1 with heap := h', toks := t }) := by
  have f1 : s.heap.get? s.heap.objs.size = none := none_of_size (Nat.le_refl _)
  have p0 : Post prog w cl P G own s G hp { s with heap := s.heap.push oD } := Post.growTo (t := s.toks) c.rel fun b o e => Heap.get?_push_of_some _ e
  have pD := c.rel.freshP f1
  have nO := c.rel.freshO f1
  have c1 := (c.step p0).addP (Heap.get?_push_size _ hfr) pD (c.rel.freshH f1) nO (c.rel.freshG f1)
  refine ⟨c1, ?_⟩
  intro G1 hp1 s1 t h' o' x p hs ho r
  have pS : (P.set s.heap.objs.size oD) s.heap.objs.size = some oD := Tab.set_self
  have gD : G1 s.heap.objs.size = none := p.rel.disj _ _ pS
  have hD : hp1 s.heap.objs.size = none := by
    cases z : hp1 s.heap.objs.size with
    | none => rfl
    | some y => have := (p.rel.ok _ _ z).2.1; rw [pS] at this; cases this
  have R1 := p.rel.lessP (P := P) (Tab.ext_set pD) c.rel.psys
  have R2 := R1.growBut (h' := h') pD gD nO hD fun b hb o e => (hs.2 b hb).trans e
  refine ⟨hD, p.ext, R2.addH ho r gD pD nO (fun q => absurd q (c.rel.ne_size 0)), fun a qa => ?_, ?_⟩
  · have hne : a ≠ s.heap.objs.size := fun q => nO (q ▸ qa)
    show h'.get? a = _
    rw [hs.2 a hne, p.own a qa]
    obtain ⟨⟨o, ho⟩, _⟩ := c.rel.ownD a qa
    rw [ho]; exact Heap.get?_push_of_some _ ho
  · obtain ⟨h2, t2, e⟩ := p.same
    rw [e]; exact ⟨_, _, rfl⟩

theorem se_dict1 {ke ve : Expr} {k' v' : E} {pos : Pos} (hk : SE prog w cl h0 n sc ke (wpE C k')) (hv : SE prog w cl h0 n sc ve (wpE C v')) : SE prog w cl h0 n sc (.Dict [some ke] [ve] pos) (wpE C (.dict1 k' v')) :=
  fun env A P G own loc hp s K Q E c S hw k => by
  conv at hw => whnf
  refine wpAny_Dict_pairs (knd := intKind prog w) (pairs := [(eval ke env, do let x ← eval ve env; standAt pos; pure x)]) rfl (by simp) (by simp) ?_
  obtain ⟨c1, fin⟩ := dict_ctx (oD := { cls := .type "dict", data := .dict #[] }) c rfl
  refine evalPairs_cons (hk env A _ G own loc hp _ _ _ _ c1 S hw fun u x hp1 G1 s1 hw1 ru p1 => wpAny_bind (hv env A _ G1 own loc hp1 s1 _ _ _ (c1.step p1) S hw1 fun v y hp2 G2 s2 hw2 rv p2 => wpAny_bind (wpAny_standAt (wpAny_pure (evalPairs_nil ?_)))))
  cases x <;> first | exact hw2.elim | skip
  rename_i i
  obtain ⟨t, rfl⟩ := ru.int_inv
  have p := p1.trans p2
  have e0 := p.rel.keepP s.heap.objs.size _ Tab.set_self
  refine ⟨[(i, v)], ⟨intKind_is _ _ _ _, rfl, trivial⟩, Heap.dictOf_iff.mpr ⟨_, e0, empty_isDictOf _⟩, fun h' hd hs => ?_⟩
  obtain ⟨o', ho', hd'⟩ := Heap.dictOf_iff.mp hd
  obtain ⟨f1, f2⟩ := fin (t := s2.toks + 1) p hs ho' (.dI (kvs := [(i, y)]) hd' (.cons rv .nil))
  exact k _ _ _ _ _ (hw2 _ f1) (.ref _) f2

theorem se_dictS {keys : List (Option Expr)} {es : List Expr} {ks : List String} {es' : Es} {pos : Pos} (hk : keysOk keys ks = true) (hes : SEsI prog w cl h0 n sc C es es') (hl : ks.length = es.length) (h1 : 1 ≤ ks.length) (h2 : ks.length ≤ 15) :
    SE prog w cl h0 n sc (.Dict keys es pos) (wpE C (.dictS ks es')) := fun env A P G own loc hp s K Q E c S hw k => by
  conv at hw => whnf
  have hshape : ∀ (keys : List (Option Expr)) (ks : List String) (es : List Expr), keysOk keys ks = true → ks.length = es.length →
      (evalEachOpt keys env).zip ((evalEach es env).map fun v => do let x ← v; standAt pos; pure x) = (aPairs pos env ks keys es).map fun p => (some p.1, p.2) := by
    intro keys
    induction keys with
    | nil =>
      intro ks es hk hl
      rcases keysOk_inv hk with ⟨_, rfl⟩ | ⟨_, _, _, _, _, e, _⟩
      · cases es with
        | nil => rfl
        | cons _ _ => cases hl
      · cases e
    | cons key keys ih =>
      intro ks es hk hl
      rcases keysOk_inv hk with ⟨e, _⟩ | ⟨_, _, _, k0, ks, e, rfl, hk'⟩
      · cases e
      · cases e
        cases es with
        | nil => cases hl
        | cons e es => exact congrArg (_ :: ·) (ih ks es hk' (Nat.succ.inj hl))
  have hlen : ∀ (keys : List (Option Expr)) (ks : List String) (es : List Expr), keysOk keys ks = true → ks.length = es.length → (aPairs pos env ks keys es).length = ks.length := by
    intro keys
    induction keys with
    | nil =>
      intro ks es hk hl
      rcases keysOk_inv hk with ⟨_, rfl⟩ | ⟨_, _, _, _, _, e, _⟩
      · rfl
      · cases e
    | cons key keys ih =>
      intro ks es hk hl
      rcases keysOk_inv hk with ⟨e, _⟩ | ⟨_, _, _, k0, ks, e, rfl, hk'⟩
      · cases e
      · cases e
        cases es with
        | nil => cases hl
        | cons e es => exact congrArg (· + 1) (ih ks es hk' (Nat.succ.inj hl))
  have hL := hlen keys ks es hk hl
  refine wpAny_Dict_pairs (knd := strKind prog w) (pairs := aPairs pos env ks keys es) (hshape keys ks es hk hl) (fun q => by rw [q] at hL; simp at hL; omega) (by rw [hL]; exact h2) ?_
  obtain ⟨c1, fin⟩ := dict_ctx (oD := { cls := .type "dict", data := .dict #[] }) c rfl
  have walk : ∀ {es : List Expr} {es' : Es}, SEsI prog w cl h0 n sc C es es' → ∀ (keys : List (Option Expr)) (ks : List String), keysOk keys ks = true → ks.length = es.length → ∀ {P G : Tab} {hp : HP} {s : Shared} {K : List AV → HP → Prop} {Q : List (Value × Value) → Shared → Prop},
      Ctx prog w cl h0 n sc env A P G own loc hp s → wpEs C es' loc hp K → (∀ vs kvs xs hp' G' s', K xs hp' → Carries (strKind prog w) vs kvs → RKV prog w cl Str.ofString G' kvs (ks.zip xs) → xs.length = ks.length → Post prog w cl P G own s G' hp' s' → Q vs s') →
      wpAny (model prog w) A (evalPairs (aPairs pos env ks keys es)) Q E s := by
    intro es es' hes
    induction hes with
    | nil =>
      intro keys ks hk hl P G hp s K Q c hw k
      cases ks with
      | cons _ _ => cases hl
      | nil =>
        conv at hw => whnf
        cases keys <;> exact evalPairs_nil (k [] [] [] _ _ _ hw trivial .nil rfl (Post.refl c.rel))
    | @cons e e' es es' he _ _ ih =>
      intro keys ks hk hl P G hp s K Q c hw k
      rcases keysOk_inv hk with ⟨_, rfl⟩ | ⟨_, _, keys, k0, ks, rfl, rfl, hk2⟩
      · cases hl
      · conv at hw => whnf
        show wpAny _ A (evalPairs ((eval _ env, _) :: aPairs pos env ks keys es)) _ _ _
        have pt := Post.tok c.rel (s.toks + 1)
        refine evalPairs_cons (wpAny_Constant_str (wpAny_bind (he env A P G own loc hp _ _ _ _ (c.step pt) S hw fun u x hp1 G1 s1 hw1 ru p1 => wpAny_bind (wpAny_standAt (wpAny_pure ?_)))))
        refine ih keys ks hk2 (by simpa using hl) (c.step (pt.trans p1)) hw1 fun vs kvs xs hp2 G2 s2 hk2 hc hr hlx p2 => ?_
        exact k _ ((Str.ofString k0, u) :: kvs) (x :: xs) _ _ _ hk2 ⟨strKind_is _ _ _ _, rfl, hc⟩ (.cons (ru.mono p2.ext) hr) (by simpa using hlx) ((pt.trans p1).trans p2)
  refine walk hes keys ks hk hl c1 hw fun vs kvs xs hp2 G2 s2 ⟨w1, w2, w3, w4⟩ hc hr hlx p => ?_
  have e0 := p.rel.keepP s.heap.objs.size _ Tab.set_self
  refine ⟨kvs, hc, Heap.dictOf_iff.mpr ⟨_, e0, empty_isDictOf _⟩, fun h' hd hs => ?_⟩
  obtain ⟨o', ho', hd'⟩ := Heap.dictOf_iff.mp hd
  have gen : ∀ (more : List (Str × Value)) (more' : List (String × AV)), RKV prog w cl Str.ofString G2 more more' → ∀ (cvs : List (Str × Value)) (kvs : List (String × AV)), RKV prog w cl Str.ofString G2 cvs kvs → RKV prog w cl Str.ofString G2 (merged cvs more) (aMerge kvs more') := by
    intro more more' r
    induction r with
    | nil => intro cvs kvs r; exact r
    | @cons k0 v0 x0 vs0 xs0 a r ih => intro cvs kvs r'; exact ih _ _ (RKV.put (f := Str.ofString) (fun _ _ e => ofString_inj e) r' a)
  have hm := gen kvs (ks.zip xs) hr [] [] .nil
  rw [aMerge_apart _ [] (by rw [zip_keys hlx]; exact w2) (fun _ _ y hy => nomatch hy)] at hm
  obtain ⟨f1, f2⟩ := fin (t := s2.toks + vs.length) p hs ho' (.dS hd' hm)
  exact k _ _ _ _ _ (w4 _ f1) (.ref _) f2

end
end Mine
end
section
set_option Elab.async false
set_option maxRecDepth 100000
set_option linter.unusedVariables false
namespace Mine
open PySem PySem.W PySem.Calls PyProof.Rows PySem.MeetsSeq

noncomputable def biName : Bi → String
  | .abs => "abs" | .len => "len" | .sorted => "sorted" | .sum => "sum" | .tuple => "tuple" | .dict => "dict" | .range => "range"
noncomputable def topNames : List String := ["_law_draw", "_law_many", "_law_block", "_law_joined", "_law_way", "_law_rows", "_law_put"]
noncomputable def glOk (sc : Scope) (x : String) : Bool := sc.kind == .function && sc.names.lookup (Str.ofString x) == some .globalImplicit && !(Str.ofString x == Str.ofString "__debug__")

structure Facts (cl : String → Nat) (h0 : Heap) extends Facts0 cl h0 where
  mg : Str → Option Value
  mb : Str → Option Value
  hg : h0.Ns mainGlobals mg
  hb : h0.Ns builtinsNs mb
  nolim : h0.NoLimit
  fa : String → Nat
  bis : ∀ b : Bi, mg (Str.ofString (biName b)) = none ∧ mb (Str.ofString (biName b)) = some (biVal b)
  gfn : ∀ f ∈ topNames, mg (Str.ofString f) = some (.ref (fa f))
  gcl : ∀ C ∈ clsNames, mg (Str.ofString C) = some (.ref (cl C))
  meth : ∀ q ∈ methNames, findIn F (.ref (cl q.1)) (Str.ofString q.2) = some (some (.ref (fa (q.1 ++ "." ++ q.2)))) ∧ typeIn F (.ref (fa (q.1 ++ "." ++ q.2))) = some (.type "function")
  init : ∀ C ∈ clsNames, findIn F (.ref (cl C)) "__init__" = some (some (.ref (fa (C ++ ".__init__")))) ∧ typeIn F (.ref (fa (C ++ ".__init__"))) = some (.type "function")
  isf : ∀ f, (Mine.P f).isSome = true → ∃ o fd, h0.get? (fa f) = some o ∧ o.data = .func fd

structure AOkC (n : Nat) (A : Around) : Prop where
  handled : A.handled = none
  depth : A.depth + 3 * n + 18 < 1000
  units : A.units + 20 * n + 183 < 9900
theorem AOk.toC {n : Nat} {A : Around} (a : AOk n A) : AOkC n A := ⟨a.handled, by have := a.depth; exact Nat.le_of_lt (Nat.le_of_lt this), by have := a.units; exact Nat.lt_of_le_of_lt (Nat.add_le_add_left (by decide) _) this⟩

noncomputable def CallOk (prog : Program) (w : World) (cl : String → Nat) (h0 : Heap) (fa : String → Nat) (n : Nat) : Prop :=
  ∀ (f : String) (A : Around) (P G : Tab) (own : Nat → Prop) (hp : HP) (s : Shared) (vs : List Value) (xs : List AV) (K : AV → HP → Prop) (R : Result → Shared → Prop),
    AOkC n A → (∀ a o, h0.get? a = some o → P a = some o ∨ G a = some o) → RelH prog w cl P G own hp s.heap → RVs prog w cl G vs xs → Call Mine.P n f xs hp K →
    (∀ v x hp' G' s', K x hp' → RV prog w cl G' v x → Post prog w cl P G own s G' hp' s' → R (.ok (.ret v)) s') → codeAny (model prog w) A (.call (.ref (fa f)) ⟨vs, []⟩) R s

section
variable {prog : Program} {w : World} {cl : String → Nat} {h0 : Heap} {n : Nat} {sc : Scope} {env : Env} {A : Around} {P P2 G G' G2 : Tab} {own own2 : Nat → Prop} {loc loc' : Loc} {hp hp' hp2 : HP} {h h' h2 : Heap} {s s' : Shared}
  {Q : Value → Shared → Prop} {Er : Value → Shared → Prop} {K : AV → HP → Prop} {F : Frag} {C : CallSem}

theorem Ctx.keep0 (c : Ctx prog w cl h0 n sc env A P G own loc hp s) : ∀ a o, h0.get? a = some o → s.heap.get? a = some o := fun a o e => by
  rcases c.base a o e with q | q
  · exact c.rel.keepP a o q
  · exact c.rel.keepG a o q
theorem Ctx.nsg (f : Facts cl h0) (c : Ctx prog w cl h0 n sc env A P G own loc hp s) : s.heap.Ns env.globals f.mg := by
  rw [c.eok.glob]
  obtain ⟨o, es, ep, ho, r⟩ := f.hg
  exact ⟨o, es, ep, c.keep0 _ _ ho, r⟩
theorem Ctx.nsb (f : Facts cl h0) (c : Ctx prog w cl h0 n sc env A P G own loc hp s) : s.heap.Ns env.builtins f.mb := by
  rw [c.eok.blt]
  obtain ⟨o, es, ep, ho, r⟩ := f.hb
  exact ⟨o, es, ep, c.keep0 _ _ ho, r⟩

theorem gl_name {x : String} {v : Value} {p : Pos} (f : Facts cl h0) (c : Ctx prog w cl h0 n sc env A P G own loc hp s) (hx : glOk sc x = true) (hv : f.mg (Str.ofString x) = some v) (k : Q v s) : wpAny (model prog w) A (eval (.Name (Str.ofString x) p) env) Q Er s := by
  unfold glOk at hx
  simp only [Bool.and_eq_true, beq_iff_eq, Bool.not_eq_true'] at hx
  refine Name_function_global c.eok.kind (by unfold Env.kindOf; rw [c.sc]; exact hx.1.2) (loadGlobal_global (c.nsg f) hv k) hx.2
theorem bi_name {b : Bi} {p : Pos} (f : Facts cl h0) (c : Ctx prog w cl h0 n sc env A P G own loc hp s) (hx : glOk sc (biName b) = true) (k : Q (biVal b) s) : wpAny (model prog w) A (eval (.Name (Str.ofString (biName b)) p) env) Q Er s := by
  unfold glOk at hx
  simp only [Bool.and_eq_true, beq_iff_eq, Bool.not_eq_true'] at hx
  exact Name_function_global c.eok.kind (by unfold Env.kindOf; rw [c.sc]; exact hx.1.2) (loadGlobal_builtin (c.nsg f) (f.bis b).1 (c.nsb f) (f.bis b).2 k) hx.2

theorem noStar {es : List Expr} {es' : Es} {pos : Pos} (h : SEsI prog w cl h0 n sc C es es') : (backTo pos (starEach es env)).any (·.1) = false := by
  induction h with
  | nil => rfl
  | cons _ hst _ ih =>
    rw [hst]
    show (false || _) = false
    rw [Bool.false_or]; exact ih

theorem args_walk {es : List Expr} {es' : Es} {pos : Pos} {f : Value} {K : List AV → HP → Prop} {Q : Args → Shared → Prop} (hes : SEsI prog w cl h0 n sc C es es') (c : Ctx prog w cl h0 n sc env A P G own loc hp s) (S : EnvS env) (hw : wpEs C es' loc hp K)
    (k : ∀ vs xs hp' G' s', K xs hp' → RVs prog w cl G' vs xs → Post prog w cl P G own s G' hp' s' → Q ⟨vs, []⟩ s') : wpAny (model prog w) A (evalArgs f true (backTo pos (starEach es env)) []) Q Er s := by
  have hes' := hes
  cases hes with
  | nil =>
    conv at hw => whnf
    exact PySem.evalArgs_none (k [] [] _ _ _ hw .nil (Post.refl c.rel))
  | @cons e e' es es' he hst hr =>
    have main := ses_spliced (Er := Er) (pos := pos) hes' c S hw k
    rw [hst] at main ⊢
    exact evalArgs_plain main

theorem se_bi {b : Bi} {p pos : Pos} {es : List Expr} {es' : Es} (f : Facts cl h0) (hx : glOk sc (biName b) = true) (hes : SEsI prog w cl h0 n sc C es es') :
    SE prog w cl h0 n sc (.Call (.Name (Str.ofString (biName b)) p) es [] pos) (wpE C (.bi b es')) := fun env A P G own loc hp s K Q E c S hw k => by
  conv at hw => whnf
  refine Call_Name rfl (bi_name f c hx ?_)
  have go : wpAny (model prog w) A (evalArgs (biVal b) true (backTo pos (starEach es env)) []) (fun a s₁ => wpAny (model prog w) A (call (biVal b) ([] ++ a.pos) a.kw) Q E s₁) E s :=
    args_walk hes c S hw fun vs xs hp1 G1 s1 hw1 rs p1 => snd_bi p1.rel c.aok rs hw1 (k.after p1)
  cases b with
  | abs => exact callWith_builtin (noStar hes) go
  | len => exact callWith_builtin (noStar hes) go
  | sorted => exact callWith_builtin (noStar hes) go
  | sum => exact callWith_builtin (noStar hes) go
  | tuple => exact PySem.callWith_type (noStar hes) go
  | dict => exact PySem.callWith_type (noStar hes) go
  | range => exact PySem.callWith_type (noStar hes) go

theorem se_call {fn : String} {p pos : Pos} {es : List Expr} {es' : Es} (f : Facts cl h0) (hC : CallOk prog w cl h0 f.fa n) (hf : fn ∈ topNames) (hsome : (Mine.P fn).isSome = true) (hx : glOk sc fn = true) (hes : SEsI prog w cl h0 n sc (Call Mine.P n) es es') :
    SE prog w cl h0 n sc (.Call (.Name (Str.ofString fn) p) es [] pos) (wpE (Call Mine.P n) (.call fn es')) := fun env A P G own loc hp s K Q E c S hw k => by
  conv at hw => whnf
  refine Call_Name rfl (gl_name f c hx (f.gfn fn hf) ?_)
  obtain ⟨o, fd, ho, hd⟩ := f.isf fn hsome
  refine callWith_function (o := o) (fd := fd) (args_walk hes c S hw fun vs xs hp1 G1 s1 hw1 rs p1 => ⟨⟨(c.step p1).keep0 _ _ ho, hd⟩, wpAny_call ?_⟩)
  exact hC fn A P G1 own hp1 s1 vs xs K _ c.aok.toC (c.step p1).base p1.rel rs hw1 fun v x hp2 G2 s2 hk r p2 => k v x _ _ _ hk r (p1.trans p2)

theorem se_meth {o : E} {oe : Expr} {m : String} {apos pos : Pos} {es : List Expr} {es' : Es} (f : Facts cl h0) (hC : CallOk prog w cl h0 f.fa n) (ho : SE prog w cl h0 n sc oe (wpE (Call Mine.P n) o)) (hes : SEsI prog w cl h0 n sc (Call Mine.P n) es es')
    (he : ∀ env, eval (.Call (.Attribute oe (Str.ofString m) apos) es [] pos) env = (do
      let ov ← eval oe env
      standAt apos.atName
      let (f, first) ← holding [ov] (getMethod ov (Str.ofString m) (do return (← importBound oe env).getD true))
      callWith pos f first (backTo pos (starEach es env)) []) := by exact fun _ => rfl)
    (hP : ∀ q ∈ methNames, (Mine.P (q.1 ++ "." ++ q.2)).isSome = true) :
    SE prog w cl h0 n sc (.Call (.Attribute oe (Str.ofString m) apos) es [] pos) (wpE (Call Mine.P n) (.meth o m es')) := fun env A P G own loc hp s K Q E c S hw k => by
  conv at hw => whnf
  refine MethodCall_ (ho env A P G own loc hp s _ _ _ c S hw fun u x hp1 G1 s1 hw1 ru p1 => ?_) (he env)
  obtain ⟨Cn, at_, rfl, hn, hm, hw1⟩ := hw1
  refine snd_getMethod ((c.step p1).inF f.toFacts0) f.cls p1.rel ru hn (f.meth _ hm) ?_
  obtain ⟨ob, fd, hob, hd⟩ := f.isf _ (hP _ hm)
  refine callWith_function (o := ob) (fd := fd) (args_walk hes (c.step p1) S hw1 fun vs xs hp2 G2 s2 hw2 rs p2 => ⟨⟨((c.step p1).step p2).keep0 _ _ hob, hd⟩, wpAny_call ?_⟩)
  exact hC _ A P G2 own hp2 s2 (u :: vs) _ K _ c.aok.toC ((c.step p1).step p2).base p2.rel (.cons (ru.mono p2.ext) rs) hw2 fun v x hp3 G3 s3 hk r p3 => k v x _ _ _ hk r ((p1.trans p2).trans p3)

theorem callWith_make {C : Addr} {pos : Pos} {args : List (Bool × Sem Value)} {Q : Value → Shared → Prop} (hst : args.any (·.1) = false)
    (h : wpAny (model prog w) A (evalArgs (.ref C) true args []) (fun as s₁ => Makes (model prog w) s₁.heap C ∧ wpAny (model prog w) A (call (.ref C) as.pos as.kw) Q Er s₁) Er s) :
    wpAny (model prog w) A (callWith pos (.ref C) [] args []) Q Er s := by
  unfold callWith
  refine wpAny_bind (wpAny_holding (wpAny_mono h (fun as s₁ h₁ => wpAny_bind (wpAny_standAt ?_)) fun _ _ x => x))
  obtain ⟨Y, hc⟩ := h₁
  obtain ⟨oc, od, cd, sl, hC, _⟩ := Y.obj
  have tail : ∀ {t : Sem Value}, wpAny (model prog w) A t Q Er s₁ → wpAny (model prog w) A (t >>= fun r => holding [r] point >>= fun _ => pure r) Q Er s₁ :=
    fun ht => wpAny_bind (wpAny_mono ht (fun r s₂ hr => wpAny_bind (wpAny_holding (wpAny_point (wpAny_pure hr)))) fun _ _ x => x)
  simp only [hst, List.any_nil, Bool.or_false]
  refine wpAny_bind (m := keeperOf (.ref C)) ?_
  unfold keeperOf
  refine wpAny_bind (wpAny_load hC ?_)
  dsimp only
  refine wpAny_bind (Y.call.at ?_)
  rw [if_pos (by rfl)]
  exact wpAny_pure (tail hc)

theorem se_new {Cn : String} {p pos : Pos} {es : List Expr} {es' : Es} (f : Facts cl h0) (hC : CallOk prog w cl h0 f.fa n) (hf : Cn ∈ clsNames) (hx : glOk sc Cn = true) (hes : SEsI prog w cl h0 n sc (Call Mine.P n) es es') :
    SE prog w cl h0 n sc (.Call (.Name (Str.ofString Cn) p) es [] pos) (wpE (Call Mine.P n) (.new Cn es')) := fun env A P G own loc hp s K Q E c S hw k => by
  conv at hw => whnf
  refine Call_Name rfl (gl_name f c hx (f.gcl Cn hf) ?_)
  refine callWith_make (noStar hes) (args_walk hes c S hw fun vs xs hp1 G1 s1 hw1 rs p1 => ?_)
  have c1 := c.step p1
  have X := c1.inF f.toFacts0
  refine ⟨makes_of X (f.cls Cn hf).makes, wpAny_call ?_⟩
  obtain ⟨i1, i2⟩ := f.init Cn hf
  obtain ⟨hh, g, d, t, os⟩ := s1
  refine make_core (makes_of X (f.cls Cn hf).makes) (looks_findIn X i1) (fun self => bind_fn X self i2) (.inl rfl) ?_
  have fD : hh.get? hh.objs.size = none := none_of_size (Nat.le_refl _)
  have fA : hh.get? (hh.objs.size + 1) = none := none_of_size (Nat.le_succ _)
  have p2 : Post prog w cl P G1 own ⟨hh, g, d, t, os⟩ G1 (hp1.set hh.objs.size (.attrs [])) ⟨hh.push emptyDict, g, d, t, os⟩ :=
    Post.newH (t := t) p1.rel (fun b o e => Heap.get?_push_of_some _ e) fD (Heap.get?_push_size _ rfl) (.attrs (es := []) (n := 0) .nil List.nodup_nil) (fun q => absurd q (p1.rel.ne_size 0))
  have fA2 : (hh.push emptyDict).get? (hh.objs.size + 1) = none := none_of_size (by rw [Heap.size_push]; exact Nat.le_refl _)
  have p3 : Post prog w cl P G1 own ⟨hh.push emptyDict, g, d, t, os⟩ G1 ((hp1.set hh.objs.size (.attrs [])).set (hh.objs.size + 1) (.inst Cn hh.objs.size)) ⟨(hh.push emptyDict).push (instObj (cl Cn) hh.objs.size), g, d, t, os⟩ :=
    Post.newH (t := t) p2.rel (fun b o e => Heap.get?_push_of_some _ e) fA2 (by rw [← Heap.size_push hh emptyDict]; exact Heap.get?_push_size _ rfl) (.inst hf)
  have p4 := (p2.trans p3)
  refine hC _ _ P G1 own _ _ _ (.ref (hh.objs.size + 1) :: xs) (fun v hp2 => v = .none ∧ K (.ref (hh.objs.size + 1)) hp2) _ ?_ ((c1.step p4).base) p4.rel (.cons (.ref _) (rs.mono p4.ext)) ?_ fun v x hp2 G2 s2 hk r p5 => ?_
  · have a1 := c.aok.depth
    have a2 := c.aok.units
    refine ⟨c.aok.handled, ?_, ?_⟩
    · show A.depth + 1 + 3 * n + 18 < 1000
      omega
    · show A.units + 1 + 20 * n + 183 < 9900
      omega
  · exact hw1 _ _ (p1.rel.freshH fA) (p1.rel.freshH fD) (by exact Nat.ne_of_gt (Nat.lt_succ_self _))
  · obtain ⟨rfl, hk⟩ := hk
    cases r
    exact ⟨rfl, k _ _ _ _ _ hk (.ref _) (p1.trans (p4.trans p5))⟩

theorem getMethod_lm {m : LM} {u : Value} {x : AV} {pl : Sem Bool} {Q : Value × List Value → Shared → Prop} (R : RelH prog w cl P G own hp s.heap) (ru : RV prog w cl G u x) (ty : lmTy x m hp) (k : Q (.builtin (lmId m), [u]) s) :
    wpAny (model prog w) A (getMethod u (Str.ofString (lmName m)) pl) Q Er s := by
  cases m with
  | count =>
    obtain ⟨_, rfl, _⟩ := onL_inv ty
    obtain ⟨_, _, _, rfl, g, _⟩ := ru.fl_inv
    exact getMethod_builtin (T := "list") ⟨_, R.keepG _ _ g, rfl⟩ PySem.F.plainAttrs_list PySem.F.slot_list_count PySem.F.type_list_count (fun a e => by cases e; exact ⟨_, R.keepG _ _ g, rfl⟩) k
  | append =>
    obtain ⟨a, rfl, xs, q⟩ := onR_inv ty
    obtain rfl := ru.ref_inv
    obtain ⟨_, _, ho, _⟩ := lsAt R q
    exact getMethod_builtin (T := "list") ⟨_, ho, rfl⟩ PySem.F.plainAttrs_list PySem.F.slot_list_append type_list_append (fun a e => by cases e; exact ⟨_, ho, rfl⟩) k
  | extend =>
    obtain ⟨a, rfl, xs, q⟩ := onR_inv ty
    obtain rfl := ru.ref_inv
    obtain ⟨_, _, ho, _⟩ := lsAt R q
    exact getMethod_builtin (T := "list") ⟨_, ho, rfl⟩ PySem.F.plainAttrs_list PySem.F.slot_list_extend PySem.F.type_list_extend (fun a e => by cases e; exact ⟨_, ho, rfl⟩) k
  | pop =>
    obtain ⟨a, rfl, xs, q⟩ := onR_inv ty
    obtain rfl := ru.ref_inv
    obtain ⟨_, _, ho, _⟩ := lsAt R q
    exact getMethod_builtin (T := "list") ⟨_, ho, rfl⟩ PySem.F.plainAttrs_list PySem.F.slot_list_pop PySem.F.type_list_pop (fun a e => by cases e; exact ⟨_, ho, rfl⟩) k
  | get =>
    obtain ⟨a, rfl, xs, q⟩ := onR_inv ty
    obtain rfl := ru.ref_inv
    obtain ⟨cvs, hd, r⟩ := dIAt R q
    exact getMethod_builtin hd.typeIs PySem.F.plainAttrs_dict PySem.F.slot_dict_get PySem.F.type_dict_get hd.mapOf.noDict k
  | update =>
    obtain ⟨a, rfl, xs, q⟩ := onR_inv ty
    obtain rfl := ru.ref_inv
    obtain ⟨cvs, hd, r⟩ := dIAt R q
    exact getMethod_builtin hd.typeIs PySem.F.plainAttrs_dict PySem.F.slot_dict_update PySem.F.type_dict_update hd.mapOf.noDict k

theorem se_lm {o : E} {oe : Expr} {m : LM} {apos pos : Pos} {es : List Expr} {es' : Es} (ho : SE prog w cl h0 n sc oe (wpE C o)) (hes : SEsI prog w cl h0 n sc C es es')
    (he : ∀ env, eval (.Call (.Attribute oe (Str.ofString (lmName m)) apos) es [] pos) env = (do
      let ov ← eval oe env
      standAt apos.atName
      let (f, first) ← holding [ov] (getMethod ov (Str.ofString (lmName m)) (do return (← importBound oe env).getD true))
      callWith pos f first (backTo pos (starEach es env)) []) := by exact fun _ => rfl) :
    SE prog w cl h0 n sc (.Call (.Attribute oe (Str.ofString (lmName m)) apos) es [] pos) (wpE C (.lm o m es')) := fun env A P G own loc hp s K Q E c S hw k => by
  conv at hw => whnf
  refine MethodCall_ (ho env A P G own loc hp s _ _ _ c S hw fun u x hp1 G1 s1 hw1 ru p1 => ?_) (he env)
  obtain ⟨ty, hw1⟩ := hw1
  refine getMethod_lm p1.rel ru ty ?_
  refine callWith_builtin (noStar hes) (args_walk hes (c.step p1) S hw1 fun vs xs hp2 G2 s2 hw2 rs p2 => ?_)
  exact snd_lm p2.rel c.aok (ru.mono p2.ext) rs hw2 (k.after (p1.trans p2))

end
end Mine
end
section
set_option Elab.async false
set_option maxRecDepth 100000
set_option linter.unusedVariables false
namespace Mine
open PySem PySem.W PySem.Calls PyProof.Rows PySem.MeetsSeq

noncomputable def stoOk (sc : Scope) (x : String) : Bool := sc.names.lookup (Str.ofString x) == some .local || sc.names.lookup (Str.ofString x) == some .cell
noncomputable def swB (sc scope : Scope) (t : Str) (tp cp : Pos) : Bool :=
  (if sc.kind.isAnnotationScope then ScopeKind.function else sc.kind) == .function && sc.names.lookup t == some .local && tp.line == cp.line && !(scope.names.any fun (n, k) => n == t && (k == .local || k == .cell))

theorem setAll_snoc {x : String} {v : AV} : ∀ {xs : List String} {vs : List AV} {l : Loc}, xs.length = vs.length → setAll l (xs ++ [x]) (vs ++ [v]) = (setAll l xs vs).set x v
  | [], [], l, _ => rfl
  | y :: xs, u :: vs, l, h => setAll_snoc (xs := xs) (vs := vs) (l := l.set y u) (by simpa using h)
theorem setAll_set {x : String} {v : AV} : ∀ {xs : List String} {vs : List AV} {l : Loc}, x ∉ xs → setAll (l.set x v) xs vs = (setAll l xs vs).set x v
  | [], [], l, _ => rfl
  | [], _ :: _, l, _ => rfl
  | _ :: _, [], l, _ => rfl
  | y :: xs, u :: vs, l, h => by
    have hne : x ≠ y := fun e => h (by rw [e]; exact List.mem_cons_self)
    show setAll ((l.set x v).set y u) xs vs = (setAll (l.set y u) xs vs).set x v
    rw [← setAll_set (xs := xs) (vs := vs) (l := l.set y u) fun e => h (List.mem_cons_of_mem _ e)]
    congr 1
    funext z
    unfold Loc.set
    by_cases h1 : z = x
    · subst h1; rw [if_neg hne, if_pos rfl, if_pos rfl]
    · rw [if_neg h1, if_neg h1]
theorem setAll_rev : ∀ {xs : List String} {vs : List AV} {l : Loc}, xs.length = vs.length → xs.Nodup → setAll l xs.reverse vs.reverse = setAll l xs vs
  | [], [], l, _, _ => rfl
  | x :: xs, v :: vs, l, h, hn => by
    rw [List.nodup_cons] at hn
    rw [List.reverse_cons, List.reverse_cons, setAll_snoc (by simpa using h), setAll_rev (by simpa using h) hn.2]
    exact (setAll_set hn.1).symm

section
variable {prog : Program} {w : World} {cl : String → Nat} {h0 : Heap} {n : Nat} {sc : Scope} {env : Env} {A : Around} {P P2 G G' G2 : Tab} {own own2 : Nat → Prop} {loc loc' : Loc} {hp hp' hp2 : HP} {h h' h2 : Heap} {s s' : Shared}
  {Q : Value → Shared → Prop} {Er : Value → Shared → Prop} {K : AV → HP → Prop} {F : Frag} {C : CallSem}

theorem se_rev {e : E} {ee : Expr} {k1 : Nat} {p1 p2 p pos : Pos} (he : SE prog w cl h0 n sc ee (wpE C e)) :
    SE prog w cl h0 n sc (.Subscript ee (.Slice none none (some (.UnaryOp .USub (.Constant (.int 1) k1 p1) p2)) p) pos) (wpE C (.rev e)) := fun env A P G own loc hp s K Q E c S hw k => by
  conv at hw => whnf
  refine Subscript_ (he env A P G own loc hp s _ _ _ c S hw fun u x hp1 G1 s1 hw1 ru q1 => ?_)
  obtain ⟨xs, hxs, hsz, hk⟩ := hw1
  refine wpAny_Slice ?_
  rw [evalPart_none, evalPart_some]
  refine wpAny_pure (wpAny_pure (wpAny_UnaryOp (wpAny_Constant_int (PyProof.Rows.neg_int ?_))))
  obtain ⟨a, items, k0, rfl, hl, rl⟩ := listAt q1.rel ru hxs
  have f1 : s1.heap.get? (s1.heap.objs.size + 1) = none := none_of_size (by exact Nat.le_add_right _ _)
  refine tail_any (T := "list") (ops := [.ref a, .ref s1.heap.objs.size]) ⟨_, (hl.isList.push _).choose_spec.1, (hl.isList.push _).choose_spec.2.1⟩ list_getitem_lookup (wpAny_getItem_list_slice (hl.isList.push _) (Heap.IsSliceOf.new ..) .none .none (.int _ _) (by simp) ?_ (by rw [rl.size]; exact sz_line hsz)) rfl
  dsimp only
  rw [krv_pick, Heap.size_push]
  refine k _ _ _ _ _ hk (.fl (a := s1.heap.objs.size + 1) (items := items.toList.reverse.toArray) (n := 0) Tab.set_self (rl.reverse.mono (Tab.ext_set (q1.rel.freshG f1)))) (q1.trans (Post.newG q1.rel (fun b o e => Heap.get?_push_of_some _ (Heap.get?_push_of_some _ e)) f1 ?_))
  rw [← Heap.size_push s1.heap]
  exact Heap.get?_push_size _ rfl

theorem se_comp {elt it : E} {t : Tgt} {elte te ite : Expr} {scope : Scope} {pos : Pos} (hit : SE prog w cl h0 n sc ite (wpE C it)) (hel : SE prog w cl h0 n (relabelS scope sc) elte (wpE C elt)) (hok : compOk scope sc t = true) (hi : isTgt t te = true := by decide +kernel)
    (hss : ∀ env x, foldedSetIterable ite env x = pure x := by exact fun _ _ => rfl) : SE prog w cl h0 n sc (.ListComp elte [⟨te, ite, [], 0⟩] scope pos) (wpE C (.comp elt t it)) := fun env A P G own loc hp s K Q E c S hw k => by
  conv at hw => whnf
  rw [eval_ListComp]
  refine snd_comp (use := none) (compOk_ok hok) (hss env) hit hel sts_nil hi c S hw fun xs hp' G' s' D Cc m hk rv p hn p1 p2 p3 p4 => ⟨m, hn, fun h' hs => ?_⟩
  exact k _ _ _ _ _ hk rv (p.trans (Post.growBut (t := s'.toks) p.rel p1 p2 p3 p4 fun b hb o e => (hs.2 b hb).trans e))

theorem se_compIf {elt it cnd : E} {t : Tgt} {elte te ite ce : Expr} {scope : Scope} {pos : Pos} (hit : SE prog w cl h0 n sc ite (wpE C it)) (hel : SE prog w cl h0 n (relabelS scope sc) elte (wpE C elt)) (hc : ST prog w cl h0 n (relabelS scope sc) ce (wpE C cnd))
    (hok : compOk scope sc t = true) (hi : isTgt t te = true := by decide +kernel)
    (hss : ∀ env x, foldedSetIterable ite env x = pure x := by exact fun _ _ => rfl) : SE prog w cl h0 n sc (.ListComp elte [⟨te, ite, [ce], 0⟩] scope pos) (wpE C (.compIf elt t it cnd)) := fun env A P G own loc hp s K Q E c S hw k => by
  conv at hw => whnf
  rw [eval_ListComp]
  refine snd_comp (use := none) (compOk_ok hok) (hss env) hit hel (sts_one hc) hi c S hw fun xs hp' G' s' D Cc m hk rv p hn p1 p2 p3 p4 => ⟨m, hn, fun h' hs => ?_⟩
  exact k _ _ _ _ _ hk rv (p.trans (Post.growBut (t := s'.toks) p.rel p1 p2 p3 p4 fun b hb o e => (hs.2 b hb).trans e))

theorem Post.sm (p : Post prog w cl P G own s G' hp' s') : Same s s' := p.same

/-! statements -/
theorem sto_of {x : String} (c : Ctx prog w cl h0 n sc env A P G own loc hp s) (EF : EnvF env own) (h : stoOk sc x = true) : Sto env own x := by
  unfold stoOk at h
  simp only [Bool.or_eq_true, beq_iff_eq] at h
  have e : env.kindOf (Str.ofString x) = sc.names.lookup (Str.ofString x) := by unfold Env.kindOf; rw [c.sc]
  rcases h with h | h
  · exact .inl (e.trans h)
  · exact .inr ⟨e.trans h, EF _ (e.trans h)⟩

theorem ss_assign {x : String} {e : E} {ee : Expr} {p' pos : Pos} (he : SE prog w cl h0 n sc ee (wpE C e)) (hx : stoOk sc x = true)
    (hs : ∀ env : Env, env.scope = sc → swapsWith ee (some (.Name (Str.ofString x) p')) pos.line env = pure false := by exact fun _ _ => rfl) :
    SS prog w cl h0 n sc (.Assign [.Name (Str.ofString x) p'] ee pos) (wpS C (.assign x e)) := fun env A P G own loc hp s K Q E c S EF hw k => by
  conv at hw => whnf
  refine wpAny_Assign_Name (he env A P G own loc hp s _ _ _ c S hw fun u v hp1 G1 s1 hk ru p => ?_) (hs env c.sc)
  exact store (c.step p) S ru (sto_of c EF hx) fun s2 c2 e2 => k _ _ _ _ _ _ hk .next p.ext (p.sm.trans e2) c2

theorem swaps_comp {elte : Expr} {gens : List Comprehension} {scope : Scope} {cp tp : Pos} {t : Str} {l : Nat} {b : Bool} (hb : swB sc scope t tp cp = b) : ∀ env : Env, env.scope = sc → swapsWith (.ListComp elte gens scope cp) (some (.Name t tp)) l env = pure b := by
  intro env e
  subst e
  rw [← hb]; rfl

theorem wpAny_used {x y : String} {py : Pos} {ee : Expr} {spos : Pos} {Q : Flow → Shared → Prop} {elte te ite : Expr} {ifs : List Expr} {scope : Scope} {cp : Pos}
    (hsw : swapsWith (.ListComp elte [⟨te, ite, ifs, 0⟩] scope cp) (some (.Name (Str.ofString y) py)) spos.line env = pure true)
    (h : ∀ p2, wpAny (model prog w) A (comprehension (.ListComp elte [⟨te, ite, ifs, 0⟩] scope cp) scope env p2 (newList []) false (eval ite env) (some (assign (.Name (Str.ofString y) py) env))) (fun _ s' => Q .next s') Er s) :
    wpAny (model prog w) A (exec (.Assign [.Name (Str.ofString y) py] (.ListComp elte [⟨te, ite, ifs, 0⟩] scope cp) spos) env) Q Er s := by
  rw [exec_Assign_Name_used _ _ _ _ hsw]
  refine wpAny_bind (wpAny_standAt (wpAny_bind ?_))
  show wpAny _ A (do let _ ← comprehension (.ListComp elte [⟨te, ite, ifs, 0⟩] scope cp) scope env _ (newList []) false (eval ite env) (some (assign (.Name (Str.ofString y) py) env))) _ _ s
  exact wpAny_bind (wpAny_mono (h _) (fun _ s' hq => wpAny_pure (wpAny_pure hq)) fun _ _ e => e)

theorem used_fin {y : String} {py : Pos} {K : Fl → Loc → HP → Prop} {Q : Flow → Shared → Prop} (c : Ctx prog w cl h0 n sc env A P G own loc hp s) (S : EnvS env) (EF : EnvF env own) (hx : stoOk sc y = true) (k : KontB prog w cl h0 n sc env A P G own s K Q)
    {xs : List AV} {hp' : HP} {G' : Tab} {s' : Shared} {D Cc : Addr} {m : Str → Option Value} (hk : K .next (loc.set y (.fl xs)) hp') (rv : RV prog w cl G' (.ref D) (.fl xs)) (p : Post prog w cl P G own s G' hp' s') (hn : s'.heap.Ns Cc m) (p1 : P Cc = none) (p2 : G' Cc = none) (p3 : ¬ own Cc) (p4 : hp' Cc = none) :
    compPost (model prog w) A Er (some (assign (.Name (Str.ofString y) py) env)) (fun _ s' => Q .next s') (.ref D) Cc (.ok .next) s' := by
  show wpAny (model prog w) A (assign (.Name (Str.ofString y) py) env (.ref D)) _ _ _
  obtain ⟨o, es, ep, ho, hr⟩ := hn
  have c1 := c.step p
  have c2 := c1.addP ho p1 p4 p3 p2
  refine wpAny_assign_Name (store c2 S rv (sto_of c EF hx) fun s3 c3 e3 => ⟨m, ⟨o, es, ep, c3.rel.keepP _ _ Tab.set_self, hr⟩, fun h' hs => ?_⟩)
  have c4 := c3.lessP c1 (Tab.ext_set p1) (Ext.refl _)
  have c5 := c4.step (Post.growBut (t := s3.toks) c4.rel p1 p2 p3 p4 (h' := h') fun b hb o e => (hs.2 b hb).trans e)
  exact k _ _ _ _ _ _ hk .next p.ext (p.sm.trans (e3.trans ⟨_, _, rfl⟩)) c5

theorem ss_used {x : String} {elt it : E} {t : Tgt} {elte te ite : Expr} {scope : Scope} {p' cp pos : Pos} (hit : SE prog w cl h0 n sc ite (wpE C it)) (hel : SE prog w cl h0 n (relabelS scope sc) elte (wpE C elt)) (hok : compOk scope sc t = true) (hx : stoOk sc x = true)
    (hsw : swB sc scope (Str.ofString x) p' cp = true) (hi : isTgt t te = true := by decide +kernel) (hss : ∀ env x, foldedSetIterable ite env x = pure x := by exact fun _ _ => rfl) :
    SS prog w cl h0 n sc (.Assign [.Name (Str.ofString x) p'] (.ListComp elte [⟨te, ite, [], 0⟩] scope cp) pos) (wpS C (.assign x (.comp elt t it))) := fun env A P G own loc hp s K Q E c S EF hw k => by
  conv at hw => whnf
  refine wpAny_used (x := x) (ee := te) (swaps_comp hsw env c.sc) fun p2 => ?_
  exact snd_comp (K := fun v hp1 => K .next (loc.set x v) hp1) (compOk_ok hok) (hss env) hit hel sts_nil hi c S hw fun xs hp' G' s' D Cc m hk rv p hn p1 p2 p3 p4 => used_fin c S EF hx k hk rv p hn p1 p2 p3 p4
theorem ss_usedIf {x : String} {elt it cnd : E} {t : Tgt} {elte te ite ce : Expr} {scope : Scope} {p' cp pos : Pos} (hit : SE prog w cl h0 n sc ite (wpE C it)) (hel : SE prog w cl h0 n (relabelS scope sc) elte (wpE C elt)) (hc : ST prog w cl h0 n (relabelS scope sc) ce (wpE C cnd)) (hok : compOk scope sc t = true) (hx : stoOk sc x = true)
    (hsw : swB sc scope (Str.ofString x) p' cp = true) (hi : isTgt t te = true := by decide +kernel) (hss : ∀ env x, foldedSetIterable ite env x = pure x := by exact fun _ _ => rfl) :
    SS prog w cl h0 n sc (.Assign [.Name (Str.ofString x) p'] (.ListComp elte [⟨te, ite, [ce], 0⟩] scope cp) pos) (wpS C (.assign x (.compIf elt t it cnd))) := fun env A P G own loc hp s K Q E c S EF hw k => by
  conv at hw => whnf
  refine wpAny_used (x := x) (ee := te) (swaps_comp hsw env c.sc) fun p2 => ?_
  exact snd_comp (K := fun v hp1 => K .next (loc.set x v) hp1) (compOk_ok hok) (hss env) hit hel (sts_one hc) hi c S hw fun xs hp' G' s' D Cc m hk rv p hn p1 p2 p3 p4 => used_fin c S EF hx k hk rv p hn p1 p2 p3 p4

/-- tuple targets, stored one after the other -/
theorem ss_assigns {xs : List String} {e : E} {ee : Expr} {es : List Expr} {kk : Nat} {tp pos : Pos} (he : SE prog w cl h0 n sc ee (wpE C e)) (hi : isNames xs es = true) (hx : xs.all (stoOk sc) = true)
    (hs : ∀ env : Env, env.scope = sc → swapsWithSole [.Tuple es kk tp] ee pos.line env = pure false) (hw : ∀ env : Env, env.scope = sc → swappedStores [.Tuple es kk tp] ee env = pure none) :
    SS prog w cl h0 n sc (.Assign [.Tuple es kk tp] ee pos) (wpS C (.assigns xs e)) := fun env A P G own loc hp s K Q E c S EF hw' k => by
  conv at hw' => whnf
  refine Assign_Tuple (he env A P G own loc hp s _ _ _ c S hw' fun u v hp1 G1 s1 hk ru p => ?_) (hs env c.sc) (hw env c.sc)
  obtain ⟨vs, rfl, hl, hn, hk⟩ := hk
  rw [List.all_eq_true] at hx
  refine snd_target (t := .tp xs) (loc' := setAll loc xs vs) S hi (fun x hm => sto_of c EF (hx x hm)) (c.step p) ru (by show (if xs.length = vs.length then some (setAll loc xs vs) else none) = _; rw [if_pos hl]) fun s2 c2 e2 => k _ _ _ _ _ _ hk .next p.ext (p.sm.trans e2) c2

theorem names_bind {Q : Unit → Shared → Prop} (S : EnvS env) (xs : List String) : ∀ {us : List Value} {vs : List AV} {loc : Loc} {s : Shared}, (∀ x ∈ xs, Sto env own x) → xs.length = vs.length →
    Ctx prog w cl h0 n sc env A P G own loc hp s → RVs prog w cl G us vs → (∀ s', Ctx prog w cl h0 n sc env A P G own (setAll loc xs vs) hp s' → Same s s' → Q () s') →
    wpAny (model prog w) A (assignInOrder ((xs.map Str.ofString).map fun n => bindName env n) us) Q Er s := by
  induction xs with
  | nil =>
    intro us vs loc s hs hl c r k
    cases vs with
    | nil => cases r; exact wpAny_pure (k s c (Same.refl s))
    | cons _ _ => cases hl
  | cons x xs ih =>
    intro us vs loc s hs hl c r k
    cases vs with
    | nil => cases hl
    | cons v vs =>
      cases r with
      | cons a r =>
      show wpAny (model prog w) A (assignInOrder (bindName env (Str.ofString x) :: (xs.map Str.ofString).map fun n => bindName env n) (_ :: _)) Q Er s
      unfold assignInOrder
      refine wpAny_bind (wpAny_holding (wpAny_bindName (store c S a (hs x List.mem_cons_self) fun s1 c1 e1 => ?_)))
      exact ih (fun y hy => hs y (List.mem_cons_of_mem _ hy)) (by simpa using hl) c1 r fun s' c' e' => k s' c' (e1.trans e')

theorem ss_swapped {xs : List String} {e : E} {ee : Expr} {es : List Expr} {kk : Nat} {tp pos : Pos} (he : SE prog w cl h0 n sc ee (wpE C e)) (hx : xs.all (stoOk sc) = true)
    (hs : ∀ env : Env, env.scope = sc → swapsWithSole [.Tuple es kk tp] ee pos.line env = pure false) (hw : ∀ env : Env, env.scope = sc → swappedStores [.Tuple es kk tp] ee env = pure (some (xs.map Str.ofString))) :
    SS prog w cl h0 n sc (.Assign [.Tuple es kk tp] ee pos) (wpS C (.assigns xs e)) := fun env A P G own loc hp s K Q E c S EF hw' k => by
  conv at hw' => whnf
  refine Assign_Tuple_swapped (he env A P G own loc hp s _ _ _ c S hw' fun u v hp1 G1 s1 hk ru p => ?_) (hs env c.sc) (hw env c.sc)
  obtain ⟨vs, rfl, hl, hn, hk⟩ := hk
  rw [List.all_eq_true] at hx
  obtain ⟨a, items, m, rfl, g, r⟩ := ru.tup_inv
  have c1 := c.step p
  have hsz : (xs.map Str.ofString).length = items.size := by rw [List.length_map, hl, r.size]
  rw [hsz]
  refine wpAny_unpackItems_tuple c.aok.handled ⟨_, p.rel.keepG _ _ g, rfl, _, rfl⟩ fun h' hxt => ?_
  have c2 := c1.grow (t := s1.toks) (h' := h') fun b o e => hxt b o (Nat.ne_of_lt (Heap.lt_size e)) e
  rw [← List.map_reverse]
  refine names_bind S xs.reverse (vs := vs.reverse) (fun x hm => sto_of c EF (hx x (List.mem_reverse.mp hm))) (by simpa using hl) c2 r.reverse fun s2 c3 e2 => ?_
  rw [setAll_rev hl hn] at c3
  exact k _ _ _ _ _ _ hk .next p.ext (p.sm.trans (Same.trans ⟨_, _, rfl⟩ e2)) c3

theorem ss_setAttr (f : Facts0 cl h0) {o e : E} {oe ee : Expr} {m : String} {ap pos : Pos} (he : SE prog w cl h0 n sc ee (wpE C e)) (ho : SE prog w cl h0 n sc oe (wpE C o)) (hm : m ∈ attrNames := by decide)
    (hs : ∀ env : Env, swapsWith ee (some (.Attribute oe (Str.ofString m) ap)) pos.line env = pure false := by exact fun _ => rfl) :
    SS prog w cl h0 n sc (.Assign [.Attribute oe (Str.ofString m) ap] ee pos) (wpS C (.setAttr o m e)) := fun env A P G own loc hp s K Q E c S EF hw k => by
  conv at hw => whnf
  refine plainObj_wpAny_Assign_Attribute (he env A P G own loc hp s _ _ _ c S hw fun u v hp1 G1 s1 hw1 ru p1 => ho env A P G1 own loc hp1 s1 _ _ _ (c.step p1) S hw1 fun ov ox hp2 G2 s2 hw2 ro p2 => ?_) (hs env)
  obtain ⟨a, Cn, d, at_, rfl, q1, q2, hl, hk⟩ := hw2
  obtain rfl := ro.ref_inv
  have c2 := (c.step p1).step p2
  exact snd_setAttr (c2.inF f) f.cls p2.rel q1 q2 (ru.mono p2.ext) hm hl fun s3 p3 => k _ _ _ _ _ _ hk .next (p1.ext.trans p2.ext) (p1.sm.trans (p2.sm.trans p3.sm)) (c2.step p3)

theorem ss_setIdx {o kx e : E} {oe ke ee : Expr} {sp pos : Pos} (he : SE prog w cl h0 n sc ee (wpE C e)) (ho : SE prog w cl h0 n sc oe (wpE C o)) (hk : SE prog w cl h0 n sc ke (wpE C kx))
    (hs : ∀ env : Env, swapsWith ee (some (.Subscript oe ke sp)) pos.line env = pure false := by exact fun _ => rfl) :
    SS prog w cl h0 n sc (.Assign [.Subscript oe ke sp] ee pos) (wpS C (.setIdx o kx e)) := fun env A P G own loc hp s K Q E c S EF hw k => by
  conv at hw => whnf
  refine wpAny_Assign_Subscript (he env A P G own loc hp s _ _ _ c S hw fun u v hp1 G1 s1 hw1 ru p1 => ho env A P G1 own loc hp1 s1 _ _ _ (c.step p1) S hw1 fun ov ox hp2 G2 s2 hw2 ro p2 =>
    hk env A P G2 own loc hp2 s2 _ _ _ ((c.step p1).step p2) S hw2 fun kv kx hp3 G3 s3 hw3 rk p3 => ?_) (hs env)
  have c3 := ((c.step p1).step p2).step p3
  have e3 : Ext G G3 := p1.ext.trans (p2.ext.trans p3.ext)
  have sm : Same s s3 := p1.sm.trans (p2.sm.trans p3.sm)
  have rv := (ru.mono p2.ext).mono p3.ext
  split at hw3
  · obtain ⟨kvs, q, hsz, hK⟩ := hw3
    obtain rfl := ro.ref_inv
    obtain ⟨t, rfl⟩ := rk.int_inv
    obtain ⟨cvs, hd, r⟩ := dIAt p3.rel q
    refine wpAny_setItem_pairs (intKind_is _ _ _ _) hd (fun h' hd' hs' => ?_) (by rw [r.length]; exact sz_line hsz)
    obtain ⟨o', ho', hd2⟩ := Heap.dictOf_iff.mp hd'
    have pp := Post.upd (t := s3.toks + 1) p3.rel q (fun b hb => hs'.2 b hb) ho' (.dI hd2 (RKV.put (f := id) (fun _ _ e => e) r rv))
    exact k _ _ _ _ _ _ hK .next e3 (sm.trans pp.sm) (c3.step pp)
  · obtain ⟨kvs, q, hsz, hK⟩ := hw3
    obtain rfl := ro.ref_inv
    obtain ⟨t, rfl⟩ := rk.str_inv
    obtain ⟨cvs, hd, r⟩ := dSAt p3.rel q
    refine wpAny_setItem_pairs (strKind_is _ _ _ _) hd (fun h' hd' hs' => ?_) (by rw [r.length]; exact sz_line hsz)
    obtain ⟨o', ho', hd2⟩ := Heap.dictOf_iff.mp hd'
    have pp := Post.upd (t := s3.toks + 1) p3.rel q (fun b hb => hs'.2 b hb) ho' (.dS hd2 (RKV.put (f := Str.ofString) (fun _ _ e => ofString_inj e) r rv))
    exact k _ _ _ _ _ _ hK .next e3 (sm.trans pp.sm) (c3.step pp)
  · obtain ⟨kvs, is, q, hi, hsz, hK⟩ := hw3
    obtain rfl := ro.ref_inv
    obtain ⟨c0, its, m, rfl, g1, g2, g3⟩ := tupAt p3.rel rk hi
    obtain ⟨cvs, hd, r⟩ := dTAt p3.rel q
    have hu : (tupleKind (intKind prog w)).room A.in1 := tupleKind_room_in1 (by rw [cLine_is]; have := c.aok.units; omega)
    refine wpAny_setItem_heap hu g3 hd (fun h' hd' hs' => ?_) (by rw [r.length]; exact sz_line hsz)
    obtain ⟨o', es, ep, ho', x1, x2, x3, x4, x5⟩ := hd'
    have pp := Post.upd (t := s3.toks + (tupleKind (intKind prog w)).draws is) p3.rel q (fun b hb => hs'.2 b hb) ho' (.dT x1 x2 x3 x5 (RKT.put r g1 g2 rv))
    exact k _ _ _ _ _ _ hK .next e3 (sm.trans pp.sm) (c3.step pp)
  · exact hw3.elim

theorem ss_expr {e : E} {ee : Expr} {pos : Pos} (he : SE prog w cl h0 n sc ee (wpE C e)) (hs : ∀ env : Env, swapsWith ee none pos.line env = pure false := by exact fun _ => rfl) : SS prog w cl h0 n sc (.Expr ee pos) (wpS C (.expr e)) :=
  fun env A P G own loc hp s K Q E c S EF hw k => by
  conv at hw => whnf
  refine wpAny_Expr (he env A P G own loc hp s _ _ _ c S hw fun u v hp1 G1 s1 hw1 ru p1 => ?_) (by unfold interactive; rw [c.eok.kind]; rfl) (hs env)
  obtain ⟨hv, hk⟩ := hw1
  rcases hv with rfl | ⟨i, rfl⟩
  · obtain rfl := ru.none_inv; exact k _ _ _ _ _ _ hk .next p1.ext p1.sm (c.step p1)
  · obtain ⟨t, rfl⟩ := ru.int_inv; exact k _ _ _ _ _ _ hk .next p1.ext p1.sm (c.step p1)

theorem ss_iff {cnd : E} {ce : Expr} {t e : Ss} {tb eb : List Stmt} {pos : Pos} (hc : ST prog w cl h0 n sc ce (wpE C cnd)) (ht : SB prog w cl h0 n sc tb (wpB C t)) (he : SB prog w cl h0 n sc eb (wpB C e)) :
    SS prog w cl h0 n sc (.If ce tb eb pos) (wpS C (.iff cnd t e)) := fun env A P G own loc hp s K Q E c S EF hw k => by
  conv at hw => whnf
  refine wpAny_If (hc env A P G own loc hp s _ _ _ c S hw fun b hp1 G1 s1 hk p => ?_)
  have k' : KontB prog w cl h0 n sc env A P G1 own s1 K Q := fun f fl l2 hp2 G2 s2 h1 h2 h3 h4 h5 => k f fl l2 hp2 G2 s2 h1 h2 (p.ext.trans h3) (p.sm.trans h4) h5
  cases b with
  | true => simp only [if_true] at hk ⊢; exact ht env A P G1 own loc hp1 s1 _ _ _ (c.step p) S EF hk k'
  | false => simp only [Bool.false_eq_true, if_false] at hk ⊢; exact he env A P G1 own loc hp1 s1 _ _ _ (c.step p) S EF hk k'

theorem ss_while {cnd : E} {ce : Expr} {b : Ss} {bb : List Stmt} {pos : Pos} (hc : ST prog w cl h0 n sc ce (wpE C cnd)) (hb : SB prog w cl h0 n sc bb (wpB C b)) : SS prog w cl h0 n sc (.While ce bb [] pos) (wpS C (.while_ cnd b)) :=
  fun env A P G own loc hp s K Q E c S EF hw k => by
  conv at hw => whnf
  exact wpAny_While (snd_while S EF hc hb c hw k)

theorem ss_for {it : E} {ite te : Expr} {t : Tgt} {b : Ss} {bb : List Stmt} {pos : Pos} (hit : SE prog w cl h0 n sc ite (wpE C it)) (hb : SB prog w cl h0 n sc bb (wpB C b)) (hx : (tgtNames t).all (stoOk sc) = true) (hi : isTgt t te = true := by decide +kernel)
    (hss : ∀ env x, foldedSetIterable ite env x = pure x := by exact fun _ _ => rfl) : SS prog w cl h0 n sc (.For te ite bb [] pos) (wpS C (.for_ t it b)) := fun env A P G own loc hp s K Q E c S EF hw k => by
  conv at hw => whnf
  refine wpAny_For (hit env A P G own loc hp s _ _ _ c S hw fun u x hp1 G1 s1 hw1 ru p1 => ?_) (hss env)
  obtain ⟨xs, hxs, hw1⟩ := hw1
  have c1 := c.step p1
  refine iter_start p1.rel ru hxs c.aok.handled fun oI St hfr itr st => ?_
  have fI : s1.heap.get? s1.heap.objs.size = none := none_of_size (Nat.le_refl _)
  have p2 : Post prog w cl P G1 own s1 G1 hp1 { s1 with heap := s1.heap.push oI } := Post.growTo (t := s1.toks) p1.rel fun b o e => Heap.get?_push_of_some _ e
  rw [List.all_eq_true] at hx
  refine snd_for (s0 := s) (G0 := G) S EF hi (fun x hm => sto_of c EF (hx x hm)) hb (by exact k) xs 0 loc hp1 G1 _ rfl (by simp) (c1.step p2) p1.ext (p1.sm.trans p2.sm) itr st (p1.rel.freshP fI) (p1.rel.freshG fI) (p1.rel.freshO fI) (p1.rel.freshH fI) hw1

theorem ss_ret {e : E} {ee : Expr} {pos : Pos} (he : SE prog w cl h0 n sc ee (wpE C e)) : SS prog w cl h0 n sc (.Return (some ee) pos) (wpS C (.ret e)) := fun env A P G own loc hp s K Q E c S EF hw k => by
  conv at hw => whnf
  exact wpAny_Return_some (he env A P G own loc hp s _ _ _ c S hw fun u v hp1 G1 s1 hk ru p => k _ _ _ _ _ _ hk (.ret ru) p.ext p.sm (c.step p))
theorem ss_cont {pos : Pos} : SS prog w cl h0 n sc (.Continue pos) (wpS C .cont) := fun env A P G own loc hp s K Q E c S EF hw k => by
  conv at hw => whnf
  exact wpAny_Continue (k _ _ _ _ _ _ hw .cont (Ext.refl _) (Same.refl _) c)

theorem sb_nil : SB prog w cl h0 n sc [] (wpB C .nil) := fun env A P G own loc hp s K Q E c S EF hw k => by
  conv at hw => whnf
  exact wpAny_execs_nil (k _ _ _ _ _ _ hw .next (Ext.refl _) (Same.refl _) c)
theorem sb_cons {st : Stmt} {ss : List Stmt} {x : Mine.S} {xs : Ss} (h1 : SS prog w cl h0 n sc st (wpS C x)) (h2 : SB prog w cl h0 n sc ss (wpB C xs)) : SB prog w cl h0 n sc (st :: ss) (wpB C (.cons x xs)) := fun env A P G own loc hp s K Q E c S EF hw k => by
  conv at hw => whnf
  refine wpAny_execs_cons (h1 env A P G own loc hp s _ _ _ c S EF hw fun f fl l1 hp1 G1 s1 hk rf e1 sm c1 => ?_)
  cases rf with
  | next => exact h2 env A P G1 own l1 hp1 s1 _ _ _ c1 S EF hk fun f fl l2 hp2 G2 s2 h1 h2 h3 h4 h5 => k f fl l2 hp2 G2 s2 h1 h2 (e1.trans h3) (sm.trans h4) h5
  | cont => exact k _ _ _ _ _ _ hk .cont e1 sm c1
  | ret r => exact k _ _ _ _ _ _ hk (.ret r) e1 sm c1

end
end Mine
end
section
set_option Elab.async false
set_option maxRecDepth 100000
set_option linter.unusedVariables false
namespace Mine
open PySem PySem.W PySem.Calls PyProof.Rows PySem.MeetsSeq

theorem cellsFrom_keep : ∀ {names : List (Str × NameKind)} {n : Nat} {acc : List (Str × Addr)} {x : Str}, (acc.lookup x).isSome = true → ((cellsFrom n names acc).lookup x).isSome = true
  | [], _, _, _, h => h
  | (name, kind) :: r, n, acc, x, h => by
    unfold cellsFrom
    split
    · refine cellsFrom_keep ?_
      rw [List.lookup_cons]
      split
      · rfl
      · exact h
    · exact cellsFrom_keep h
theorem cellsFrom_has : ∀ {names : List (Str × NameKind)} {n : Nat} {acc : List (Str × Addr)} {x : Str}, (x, NameKind.cell) ∈ names → ((cellsFrom n names acc).lookup x).isSome = true
  | (name, kind) :: r, n, acc, x, h => by
    unfold cellsFrom
    rcases List.mem_cons.mp h with e | h
    · cases e
      rw [if_pos (by decide)]
      refine cellsFrom_keep ?_
      rw [List.lookup_cons]; simp
    · split
      · exact cellsFrom_has h
      · exact cellsFrom_has h
theorem cellsFrom_sub : ∀ {names : List (Str × NameKind)} {n : Nat} {acc : List (Str × Addr)} {x : Str} {c : Addr}, (x, c) ∈ cellsFrom n names acc → (x, c) ∈ acc ∨ (x, NameKind.cell) ∈ names
  | [], _, _, _, _, h => .inl h
  | (name, kind) :: r, n, acc, x, c, h => by
    unfold cellsFrom at h
    split at h
    · rename_i hk
      rcases cellsFrom_sub h with q | q
      · rcases List.mem_cons.mp q with e | q
        · cases e; rw [eq_of_beq hk]; exact .inr List.mem_cons_self
        · exact .inl q
      · exact .inr (List.mem_cons_of_mem _ q)
    · exact (cellsFrom_sub h).imp id (List.mem_cons_of_mem _)

/-- what a list of parameters binds, read by name -/
theorem bindL_off {k : Str → Option NameKind} {y : Str} : ∀ {bs : List (Str × Value)} {m : Str → Option Value}, (∀ b ∈ bs, b.1 ≠ y) → bindL k bs m y = m y
  | [], _, _ => rfl
  | (n, v) :: r, m, h => by
    unfold bindL
    rw [bindL_off fun b hb => h b (List.mem_cons_of_mem _ hb)]
    split
    · show (if y = n then _ else _) = _
      rw [if_neg fun e => h _ List.mem_cons_self e.symm]
    · rfl
theorem bindC_off {k : Str → Option NameKind} {y : Str} : ∀ {bs : List (Str × Value)} {m : Str → Option Value}, (∀ b ∈ bs, b.1 ≠ y) → bindC k bs m y = m y
  | [], _, _ => rfl
  | (n, v) :: r, m, h => by
    unfold bindC
    rw [bindC_off fun b hb => h b (List.mem_cons_of_mem _ hb)]
    split
    · rfl
    · show (if y = n then _ else _) = _
      rw [if_neg fun e => h _ List.mem_cons_self e.symm]

section
variable {prog : Program} {w : World} {cl : String → Nat} {h0 : Heap} {n : Nat} {sc : Scope} {env : Env} {A : Around} {P P2 G G' G2 : Tab} {own own2 : Nat → Prop} {loc loc' : Loc} {hp hp' hp2 : HP} {h h' h2 : Heap} {s s' : Shared}
  {Q : Value → Shared → Prop} {Er : Value → Shared → Prop} {K : AV → HP → Prop} {F : Frag} {C : CallSem}

theorem binds_read {k : Str → Option NameKind} : ∀ {ps : List String} {vs : List Value} {xs : List AV} {l : Loc} {m cm : Str → Option Value} {x : String} {v : AV}, ps.Nodup → ps.length = vs.length → RVs prog w cl G vs xs →
    (∀ p ∈ ps, k (Str.ofString p) = some .local ∨ k (Str.ofString p) = some .cell) → setAll l ps xs x = some v → x ∈ ps →
    ∃ u, RV prog w cl G u v ∧ ((k (Str.ofString x) = some .local ∧ bindL k ((ps.map Str.ofString).zip vs) m (Str.ofString x) = some u) ∨ (k (Str.ofString x) = some .cell ∧ bindC k ((ps.map Str.ofString).zip vs) cm (Str.ofString x) = some u))
  | [], _, _, _, _, _, _, _, _, _, _, _, _, hx => nomatch hx
  | p :: ps, [], _, _, _, _, _, _, _, hl, _, _, _, _ => by simp at hl
  | p :: ps, u :: vs, xs, l, m, cm, x, v, hn, hl, r, hk, e, hx => by
    rw [List.nodup_cons] at hn
    cases r with
    | @cons _ a _ xs ra r =>
    have e' : setAll (l.set p a) ps xs x = some v := e
    by_cases hxp : x ∈ ps
    · exact binds_read (ps := ps) (vs := vs) (l := l.set p a) (m := if k (Str.ofString p) = some .local then fun y => if y = Str.ofString p then some u else m y else m) (cm := if k (Str.ofString p) = some .local then cm else fun y => if y = Str.ofString p then some u else cm y) hn.2 (by simpa using hl) r (fun q hq => hk q (List.mem_cons_of_mem _ hq)) e' hxp
    · have hxe : x = p := by
        rcases List.mem_cons.mp hx with q | q
        · exact q
        · exact absurd q hxp
      subst hxe
      rw [setAll_off hxp] at e'
      unfold Loc.set at e'
      rw [if_pos rfl] at e'
      cases e'
      have off : ∀ b ∈ (ps.map Str.ofString).zip vs, b.1 ≠ Str.ofString x := fun b hb q => by
        obtain ⟨y, hy, hyx⟩ := List.mem_map.mp (List.of_mem_zip hb).1
        exact hxp (by rw [← ofString_inj (hyx.trans q)]; exact hy)
      refine ⟨u, ra, ?_⟩
      rcases hk x List.mem_cons_self with q | q
      · refine .inl ⟨q, ?_⟩
        show bindL k ((Str.ofString x, u) :: (ps.map Str.ofString).zip vs) m _ = _
        unfold bindL
        rw [bindL_off off, if_pos q]
        show (if _ = _ then _ else _) = _
        rw [if_pos rfl]
      · refine .inr ⟨q, ?_⟩
        show bindC k ((Str.ofString x, u) :: (ps.map Str.ofString).zip vs) cm _ = _
        unfold bindC
        rw [bindC_off off, if_neg (by rw [q]; intro z; cases z)]
        show (if _ = _ then _ else _) = _
        rw [if_pos rfl]

theorem setAll_in : ∀ {ps : List String} {xs : List AV} {x : String} {v : AV}, setAll (fun _ => none) ps xs x = some v → x ∈ ps := by
  intro ps xs x v e
  by_cases h : x ∈ ps
  · exact h
  · rw [setAll_off h] at e; cases e

theorem freeze_ctx {x : String} {a : Nat} {o : AObj} {v : AV} (c : Ctx prog w cl h0 n sc env A P G own loc hp s) (hx : visOk sc x = true) (hl : loc x = some (.ref a)) (ha : hp a = some o) (hf : frozen o = some v) :
    ∃ G', Ext G G' ∧ Ctx prog w cl h0 n sc env A P G' own (loc.set x v) (hp.del a) s := by
  obtain ⟨⟨ob, hob, ro⟩, p1, p2, p3⟩ := c.rel.ok a o ha
  have hsub : HP.Sub (hp.del a) hp := fun b y e => by unfold HP.del at e; split at e; cases e; exact e
  have hd : (hp.del a) a = none := by unfold HP.del; rw [if_pos rfl]
  have hnz : a = sysModules → ob.cls ≠ .type "dict" := fun q => by
    cases o with
    | list xs => cases ro; intro h; injection h with h; exact absurd h (by decide)
    | dI kvs => exact absurd q (c.rel.hp_ne_sys ha)
    | dS _ => cases hf
    | dT _ => cases hf
    | inst _ _ => cases hf
    | attrs _ => cases hf
  have ex := Tab.ext_set (o := ob) p2
  have R := (c.rel.sub hsub).addG hob p2 p1 p3 hd hnz
  refine ⟨G.set a ob, ex, c.sc, c.aok, fun b q e => (c.base b q e).imp id (ex b q), R, c.eok, fun y z e hv => ?_⟩
  unfold Loc.set at e
  split at e
  · rename_i hy; subst hy; cases e
    obtain ⟨u, hu, ru⟩ := c.lok y _ hl hv
    obtain rfl := ru.ref_inv
    refine ⟨_, hu, ?_⟩
    cases ro with
    | list r => cases hf; exact .fl Tab.set_self (r.mono ex)
    | @dI o cvs kvs hd2 rk =>
      unfold frozen at hf
      dsimp only at hf
      split at hf
      · rename_i hall
        cases hf
        refine .fd Tab.set_self ?_
        have : cvs = (kvs.map (·.1)).map fun k => (k, Value.bool true) := by
          clear hd2 ha
          induction rk with
          | nil => rfl
          | @cons k v0 x0 vs0 xs0 a0 rk ih =>
            simp only [List.all_cons, Bool.and_eq_true] at hall
            obtain ⟨h1, h2⟩ := hall
            rw [ih h2]
            cases x0 <;> first | cases h1 | skip
            rename_i b
            cases b <;> first | cases h1 | skip
            obtain rfl := a0.bool_inv
            rfl
        rw [← this]; exact hd2
      · cases hf
    | dS _ _ => cases hf
    | dT _ _ _ _ _ => cases hf
    | inst _ => cases hf
    | attrs _ _ => cases hf
  · obtain ⟨u, hu, ru⟩ := c.lok y z e hv
    exact ⟨u, hu, ru.mono ex⟩

theorem freeze_inst {x : String} {a d : Nat} {Cn : String} {at_ : List (String × AV)} (c : Ctx prog w cl h0 n sc env A P G own loc hp s) (hx : visOk sc x = true) (hl : loc x = some (.ref a)) (ha : hp a = some (.inst Cn d)) (hd : hp d = some (.attrs at_)) :
    ∃ G', Ext G G' ∧ Ctx prog w cl h0 n sc env A P G' own (loc.set x (.inst Cn at_)) ((hp.del a).del d) s := by
  obtain ⟨⟨oa, hoa, ra⟩, p1, p2, p3⟩ := c.rel.ok a _ ha
  obtain ⟨⟨od, hod, rd⟩, q1, q2, q3⟩ := c.rel.ok d _ hd
  have hne : d ≠ a := fun e => by rw [e, ha] at hd; cases hd
  have hsub : HP.Sub ((hp.del a).del d) hp := fun b y e => by
    unfold HP.del at e
    split at e
    · cases e
    · split at e
      · cases e
      · exact e
  have ha' : ((hp.del a).del d) a = none := by unfold HP.del; rw [if_neg (Ne.symm hne), if_pos rfl]
  have hd' : ((hp.del a).del d) d = none := by unfold HP.del; rw [if_pos rfl]
  have R1 := (c.rel.sub hsub).addG hoa p2 p1 p3 ha' (by cases ra; intro _ h; cases h)
  have q2' : G.set a oa d = none := by rw [Tab.set_ne hne]; exact q2
  have R2 := R1.addG hod q2' q1 q3 hd' (fun q => absurd q (c.rel.hp_ne_sys hd))
  have ex : Ext G ((G.set a oa).set d od) := (Tab.ext_set p2).trans (Tab.ext_set q2')
  refine ⟨_, ex, c.sc, c.aok, fun b q e => (c.base b q e).imp id (ex b q), R2, c.eok, fun y z e hv => ?_⟩
  unfold Loc.set at e
  split at e
  · rename_i hy; subst hy; cases e
    obtain ⟨u, hu, ru⟩ := c.lok y _ hl hv
    obtain rfl := ru.ref_inv
    refine ⟨_, hu, ?_⟩
    cases ra with | inst hc =>
    cases rd with | attrs rd _ =>
    exact .inst hc (by rw [Tab.set_ne (Ne.symm hne)]; exact Tab.set_self) Tab.set_self (rd.mono ex)
  · obtain ⟨u, hu, ru⟩ := c.lok y z e hv
    exact ⟨u, hu, ru.mono ex⟩

theorem sb_freeze {x : String} {ss : List Stmt} {xs : Ss} (hx : visOk sc x = true) (h : SB prog w cl h0 n sc ss (wpB C xs)) : SB prog w cl h0 n sc ss (wpB C (.cons (.freeze x) xs)) := fun env A P G own loc hp s K Q E c S EF hw k => by
  conv at hw => whnf
  obtain ⟨u, hl, hw⟩ := hw
  split at hw
  · rcases hw with ⟨o, v, ha, hf, hk⟩ | ⟨Cn, d, at_, ha, hd, hk⟩
    · obtain ⟨G', ex, c'⟩ := freeze_ctx c hx hl ha hf
      exact h env A P G' own _ _ s _ _ _ c' S EF hk fun f fl l2 hp2 G2 s2 h1 h2 h3 h4 h5 => k f fl l2 hp2 G2 s2 h1 h2 (ex.trans h3) h4 h5
    · obtain ⟨G', ex, c'⟩ := freeze_inst c hx hl ha hd
      exact h env A P G' own _ _ s _ _ _ c' S EF hk fun f fl l2 hp2 G2 s2 h1 h2 h3 h4 h5 => k f fl l2 hp2 G2 s2 h1 h2 (ex.trans h3) h4 h5
  · exact h env A P G own _ _ s _ _ _ c S EF hw k

variable (prog w cl h0) in
/-- a function of the text: its object, its names, and what its body does -/
structure FnOk (fa : String → Nat) (f : String) (ps : List String) (body : Ss) (o : Obj) (fd : FuncData) (stmts : List Stmt) : Prop where
  ho : h0.get? (fa f) = some o
  hd : o.data = .func fd
  hb : fd.body = .stmts stmts
  cd : h0.CodeRec fd.code fd.qualname
  clo : fd.closure = []
  gl : fd.globals = mainGlobals
  blt : fd.builtins = builtinsNs
  co : fd.scope.isCoroutine = false
  gen : fd.scope.isGenerator = false
  kind : fd.scope.kind = .function
  nodup : ps.Nodup
  bind : ∀ vals, vals.length = ps.length → bindArgs fd ⟨vals, []⟩ = pure ((ps.map Str.ofString).zip vals)
  pk : ps.all (stoOk fd.scope) = true
  uniq : ∀ x ∈ fd.scope.names, x.2 = .cell → fd.scope.names.lookup x.1 = some .cell
  sem : ∀ n, CallOk prog w cl h0 fa n → SB prog w cl h0 n fd.scope stmts (wpB (Call Mine.P n) body)

theorem callOk_step (f : Facts cl h0) (hf : ∀ name ps body, Mine.P name = some (ps, body) → ∃ o fd stmts, FnOk prog w cl h0 f.fa name ps body o fd stmts) (ih : CallOk prog w cl h0 f.fa n) : CallOk prog w cl h0 f.fa (n + 1) := by
  intro name A P G own hp s vs xs K R aok base rel rs hw k
  obtain ⟨ps, body, hP, hlen, hw⟩ := hw
  obtain ⟨o, fd, stmts, F⟩ := hf name ps body hP
  have keep0 : ∀ a o, h0.get? a = some o → s.heap.get? a = some o := fun a o e => by
    rcases base a o e with q | q
    · exact rel.keepP a o q
    · exact rel.keepG a o q
  have hpk := F.pk
  rw [List.all_eq_true] at hpk
  have hkinds : ∀ p ∈ ps, fd.scope.names.lookup (Str.ofString p) = some .local ∨ fd.scope.names.lookup (Str.ofString p) = some .cell := fun p hp => by
    have := hpk p hp
    unfold stoOk at this
    simpa using this
  have hvl : vs.length = ps.length := rs.length.trans hlen.symm
  refine codeAny_call_cells (by rw [show recursionLimit = 1000 from rfl]; have := aok.depth; omega) (keep0 _ _ F.ho) F.hd (f.nolim.keeps keep0) (F.cd.keeps keep0) F.hb (F.bind vs hvl) F.clo
    (fun x hx => ?_) (fun s1 ic => ?_) F.co F.gen F.kind
  · obtain ⟨p, hp', he⟩ := List.mem_map.mp (List.of_mem_zip hx).1
    rw [← he]
    rcases hkinds p hp' with q | q
    · exact .inl q
    · exact .inr ⟨q, cellsFrom_has (lookup_mem q)⟩
  · generalize hE : callEnvC fd s.heap.objs.size (f.fa name) = env at ic ⊢
    have e1 : env.scope = fd.scope := by rw [← hE]; rfl
    have e2 : env.cells = cellsFrom (s.heap.objs.size + 1) fd.scope.names [] := by rw [← hE]; rfl
    have e3 : env.locals = s.heap.objs.size := by rw [← hE]; rfl
    have e4 : env.globals = mainGlobals := by rw [← hE]; exact F.gl
    have e5 : env.builtins = builtinsNs := by rw [← hE]; exact F.blt
    obtain ⟨h1, t1, es1⟩ := ic.toInCall.same
    have hkind : ∀ x, env.kindOf x = fd.scope.names.lookup x := fun x => by unfold Env.kindOf; rw [e1]
    let own2 : Nat → Prop := fun b => b = env.locals ∨ ∃ x, env.cells.lookup x = some b
    have apart : ∀ x y c, env.cells.lookup x = some c → env.cells.lookup y = some c → x = y := fun x y c a b => name_of_addr ic.apart (mem_of_lookup a) (mem_of_lookup b)
    have hL : s.heap.get? env.locals = none := none_of_size (by rw [e3]; exact Nat.le_refl _)
    have hown : ∀ a, own2 a → s.heap.get? a = none ∧ ∃ o, s1.heap.get? a = some o := fun a ha => by
      rcases ha with rfl | ⟨x, hx⟩
      · obtain ⟨o, _, _, ho, _⟩ := ic.toInCall.ns
        exact ⟨hL, o, ho⟩
      · have hlt := ic.above x a (mem_of_lookup hx)
        obtain ⟨o, ho, _⟩ := ic.cell x a hx
        exact ⟨none_of_size (by rw [e3] at hlt; exact Nat.le_of_lt hlt), o, ho⟩
    have R1 := rel.down (own2 := own2) ic.toInCall.keep hown
    have aok2 : AOk n (A.deeper env) := ⟨aok.handled, by have := aok.depth; show A.depth + 1 + 3 * n + 20 < 1000; omega, by have := aok.units; show A.units + 3 + 20 * n + 200 < 9900; omega⟩
    have c : Ctx prog w cl h0 n fd.scope env (A.deeper env) (prot P own s.heap) G own2 (setAll (fun _ => none) ps xs) hp s1 := by
      refine ⟨e1, aok2, fun a o e => (base a o e).imp (prot_sub rel a o) id, R1, ⟨by rw [e1]; exact F.kind, e4, e5, ⟨_, ic.toInCall.ns⟩, .inl rfl, fun x hx => ?_⟩, fun x v e hv => ?_⟩
      · rw [hkind] at hx
        have : (env.cells.lookup x).isSome = true := by rw [e2]; exact cellsFrom_has (lookup_mem hx)
        obtain ⟨q, hq⟩ := Option.isSome_iff_exists.mp this
        exact ⟨q, _, hq, ic.cell x q hq, .inl (.inr ⟨x, hq⟩)⟩
      · have hx := setAll_in e
        obtain ⟨u, ru, hu⟩ := binds_read (k := env.kindOf) (m := fun _ => none) (cm := fun _ => none) F.nodup hvl.symm rs (fun p hp => by rw [hkind]; exact hkinds p hp) e hx
        refine ⟨u, ?_, ru⟩
        rcases hu with ⟨q1, q2⟩ | ⟨q1, q2⟩
        · exact .inl ⟨q1, _, ic.toInCall.ns, q2⟩
        · have q1' := q1
          rw [hkind] at q1'
          have : (env.cells.lookup (Str.ofString x)).isSome = true := by rw [e2]; exact cellsFrom_has (lookup_mem q1')
          obtain ⟨c0, hc0⟩ := Option.isSome_iff_exists.mp this
          refine .inr ⟨q1, c0, hc0, ?_⟩
          rw [← q2]; exact ic.cell _ _ hc0
    have S : EnvS env := ⟨apart, fun x c hc e => by
      have := ic.above x c (mem_of_lookup hc)
      rw [e] at this; exact Nat.lt_irrefl _ this⟩
    have EF : EnvF env own2 := fun x hx => by
      rw [hkind] at hx
      have : (env.cells.lookup x).isSome = true := by rw [e2]; exact cellsFrom_has (lookup_mem hx)
      obtain ⟨q, hq⟩ := Option.isSome_iff_exists.mp this
      exact ⟨q, hq, .inr ⟨x, hq⟩⟩
    refine F.sem n ih env _ _ G own2 _ hp s1 _ _ _ c S EF hw fun fl0 fl l2 hp2 G2 s2 hk rf ex sm c2 => ?_
    obtain ⟨hp3, hsub, hk⟩ := hk
    have R2 := RelH.up rel c2.rel (prot_sub rel) (prot_has rel)
    have post : Post prog w cl P G own s G2 hp3 s2 := by
      refine ⟨ex, R2.sub hsub, fun a qa => ?_, ?_⟩
      · obtain ⟨⟨o, ho⟩, _⟩ := rel.ownD a qa
        rw [ho]
        exact c2.rel.keepP a o (by rw [prot_own qa]; exact ho)
      · obtain ⟨h2, t2, e⟩ := sm
        rw [e, es1]; exact ⟨_, _, rfl⟩
    cases rf with
    | next => exact k _ _ _ _ _ hk .none post
    | cont => exact k _ _ _ _ _ hk .none post
    | ret r => exact k _ _ _ _ _ hk r post

theorem callOk_all (f : Facts cl h0) (hf : ∀ name ps body, Mine.P name = some (ps, body) → ∃ o fd stmts, FnOk prog w cl h0 f.fa name ps body o fd stmts) : ∀ n, CallOk prog w cl h0 f.fa n
  | 0 => fun _ _ _ _ _ _ _ _ _ _ _ _ _ _ _ hw _ => hw.elim
  | n + 1 => callOk_step f hf (callOk_all f hf n)

end
end Mine
end
section
set_option Elab.async false
set_option maxRecDepth 100000
set_option linter.unusedVariables false
namespace Mine
open PySem PySem.W PySem.Calls PyProof.Rows PySem.MeetsSeq

theorem meths_some : ∀ q ∈ methNames, (Mine.P (q.1 ++ "." ++ q.2)).isSome = true := by decide +kernel

noncomputable def blkOf (sc : Scope) : ScopeKind := if sc.kind.isAnnotationScope then ScopeKind.function else sc.kind
noncomputable def swNames (sc : Scope) (ts : List Expr) : List Str :=
  ts.filterMap fun
    | .Name id pos => if sc.names.lookup id == some .local && pos.line == (ts.head?.map (·.pos.line)).getD 0 then some id else none
    | _ => none
noncomputable def swS (sc : Scope) (ts vs : List Expr) : Option (Option (List Str)) :=
  if !(ts.length == 2 || ts.length == 3) || vs.length != ts.length || blkOf sc != .function then some none
  else if vs.any fun | .Starred .. => true | _ => false then some none
  else if (swNames sc ts).length != ts.length || (swNames sc ts).eraseDups.length != (swNames sc ts).length then some none
  else if vs.all (foldedForSure 8) then some none
  else if vs.all (constantsAlone 8) then none
  else some (some (swNames sc ts))

theorem swaps_tup {sc : Scope} {ts vs : List Expr} {k1 k2 : Nat} {p1 p2 : Pos} {r : Option (List Str)} (h : swS sc ts vs = some r) : ∀ env : Env, env.scope = sc → swappedStores [.Tuple ts k1 p1] (.Tuple vs k2 p2) env = pure r := by
  intro env e
  subst e
  unfold swS at h
  unfold swappedStores
  dsimp only
  have eN : (ts.filterMap fun
      | .Name id pos => if env.kindOf id == some .local && pos.line == (ts.head?.map (·.pos.line)).getD 0 then some id else none
      | _ => none) = swNames env.scope ts := rfl
  have eB : env.blockKind = blkOf env.scope := rfl
  rw [eB]
  generalize blkOf env.scope = bk at h ⊢
  by_cases c1 : (!(ts.length == 2 || ts.length == 3) || vs.length != ts.length || bk != .function) = true
  · rw [if_pos c1] at h ⊢; cases h; rfl
  rw [if_neg c1] at h ⊢
  by_cases c2 : (vs.any fun | .Starred .. => true | _ => false) = true
  · rw [if_pos c2] at h; cases h; exact if_pos c2
  rw [if_neg c2] at h
  refine (if_neg c2).trans ?_
  by_cases c3 : ((swNames env.scope ts).length != ts.length || (swNames env.scope ts).eraseDups.length != (swNames env.scope ts).length) = true
  · rw [if_pos c3] at h; cases h
    exact if_pos c3
  rw [if_neg c3] at h
  refine (if_neg c3).trans ?_
  by_cases c4 : vs.all (foldedForSure 8) = true
  · rw [if_pos c4] at h ⊢; cases h; rfl
  rw [if_neg c4] at h ⊢
  by_cases c5 : vs.all (constantsAlone 8) = true
  · rw [if_pos c5] at h; cases h
  rw [if_neg c5] at h ⊢
  cases h; rfl

theorem lenC {vals : List Value} {k : Nat} (h : vals.length = k + 1) : ∃ a r, vals = a :: r ∧ r.length = k := by
  cases vals with
  | nil => cases h
  | cons a r => exact ⟨a, r, rfl, Nat.succ.inj h⟩
theorem len0 {vals : List Value} (h : vals.length = 0) : vals = [] := List.length_eq_zero_iff.mp h
theorem len1 {vals : List Value} (h : vals.length = 1) : ∃ a, vals = [a] := by
  obtain ⟨a, r, rfl, h'⟩ := lenC h; rw [len0 h']; exact ⟨a, rfl⟩
theorem len2 {vals : List Value} (h : vals.length = 2) : ∃ a b, vals = [a, b] := by
  obtain ⟨a, r, rfl, h'⟩ := lenC h; obtain ⟨b, rfl⟩ := len1 h'; exact ⟨a, b, rfl⟩
theorem len3 {vals : List Value} (h : vals.length = 3) : ∃ a b c, vals = [a, b, c] := by
  obtain ⟨a, r, rfl, h'⟩ := lenC h; obtain ⟨b, c, rfl⟩ := len2 h'; exact ⟨a, b, c, rfl⟩
theorem len4 {vals : List Value} (h : vals.length = 4) : ∃ a b c d, vals = [a, b, c, d] := by
  obtain ⟨a, r, rfl, h'⟩ := lenC h; obtain ⟨b, c, d, rfl⟩ := len3 h'; exact ⟨a, b, c, d, rfl⟩
theorem len5 {vals : List Value} (h : vals.length = 5) : ∃ a b c d e, vals = [a, b, c, d, e] := by
  obtain ⟨a, r, rfl, h'⟩ := lenC h; obtain ⟨b, c, d, e, rfl⟩ := len4 h'; exact ⟨a, b, c, d, e, rfl⟩
end Mine
end
section
set_option Elab.async false
set_option maxRecDepth 100000
set_option maxHeartbeats 8000000
namespace Mine
open PySem PySem.W PyProof.Rows

/-- the top's statements that the head keeps -/
noncomputable def topView : Program := view PySem.Challenge.pw_nz0388_01 [0, 2, 4, 6, 7, 8, 9, 10, 11, 12, 13]
/-- the head by one run of the top, the opening ahead of it from the library -/
theorem left_run {Xt : Shared → Bool} {α : Type} {Yf : Shared → α} {Ya : World → α}
    (h : ∀ w os, (Fast.tw14082659384304107361 Fast.tw14364793385576792824 PySem.Challenge.pw_nz0388_01 w (boot_heap w.params).objs.size ((boot_heap w.params).nsMap mainGlobals "__annotations__") 3228 ⟨boot_heap w.params, Array.mk [], boot_drawn, boot_toks, os⟩ (topStub PySem.Challenge.pw_nz0388_01)).map
      (fun s => (staticsOk (importedModules PySem.Challenge.pw_nz0388_01.main.body) (boot_heap w.params) s.heap && namesBound PySem.Challenge.pw_nz0388_01 s.heap && gensDone s && laidKept (boot_heap w.params) s.heap,
        Fast.tw4187177175401517315 topView [] (importedModules PySem.Challenge.pw_nz0388_01.main.body) Xt true s, Yf s)) = some (true, openGood topView [], Ya w)) :
    LeftO PySem.Challenge.pw_nz0388_01 topView [] Xt Yf Ya 3228 := fun w => by
  obtain ⟨⟨h', gs, d, k, os⟩, e1, e2⟩ := Option.map_eq_some_iff.mp (boot_open (p := PySem.Challenge.pw_nz0388_01) (N := 3228) (by kernel_rfl) (by kernel_rfl) (fun s => by kernel_rfl) w)
  obtain ⟨rfl, rfl, rfl, rfl⟩ : h' = boot_heap w.params ∧ gs = Array.mk [] ∧ d = boot_drawn ∧ k = boot_toks := by simpa using e2
  have h1 := h w os
  rw [← Fast.te14082659384304107361, ← Fast.te14364793385576792824, ← Fast.te4187177175401517315] at h1
  obtain ⟨s1, r1, r2⟩ := Option.map_eq_some_iff.mp h1
  have l1 := congrArg Prod.fst r2
  have l2 := congrArg (fun x => x.2.1) r2
  have l3 := congrArg (fun x => x.2.2) r2
  dsimp only at l1 l2 l3
  unfold openEnds
  rw [e1]
  show (topFrom treeTable _ w 3228 _).map _ = _
  have hz : ((boot_heap w.params).isNs mainGlobals && (Array.mk [] : Array GenState).size == 0) = true := by kernel_rfl
  unfold topFrom
  dsimp only
  rw [hz, r1]
  show ((match staticsOk _ (boot_heap w.params) s1.heap && namesBound _ s1.heap && gensDone s1 && laidKept (boot_heap w.params) s1.heap with | true => some s1 | false => none).map _) = _
  rw [l1]
  exact congrArg some (Prod.ext l2 l3)

theorem said0 : OpenLaw.wellSaid PySem.Challenge.rw_nz0388_01 = true := by decide +kernel
theorem top_head (H : Hook) (said : PySem.Challenge.rw_nz0388_01.row.wellSaid = true) {d : DefRec}
    (hd : defOf topView PySem.Challenge.rw_nz0388_01.row.name = some (d, []))
    (hp : PySem.Challenge.rw_nz0388_01.row.prog.theDef PySem.Challenge.rw_nz0388_01.row.name = some (d.params, d.body, d.scope))
    (hk : kwWritten? d.params.kwonlyargs d.params.kw_defaults = some [])
    (h : ∀ w os, (Fast.tw14082659384304107361 Fast.tw14364793385576792824 PySem.Challenge.pw_nz0388_01 w (boot_heap w.params).objs.size ((boot_heap w.params).nsMap mainGlobals "__annotations__") 3228 ⟨boot_heap w.params, Array.mk [], boot_drawn, boot_toks, os⟩ (topStub PySem.Challenge.pw_nz0388_01)).map
      (fun s => (staticsOk (importedModules PySem.Challenge.pw_nz0388_01.main.body) (boot_heap w.params) s.heap && namesBound PySem.Challenge.pw_nz0388_01 s.heap && gensDone s && laidKept (boot_heap w.params) s.heap,
        Fast.tw4187177175401517315 topView [] (importedModules PySem.Challenge.pw_nz0388_01.main.body) (fun s => xlAt topView [] s && recOk (RowW.records (OpenRow.toRowW PySem.Challenge.rw_nz0388_01.row)) s) true s, H.obs s)) = some (true, openGood topView [], H.val w))
    (hw : (PySem.Challenge.rw_nz0388_01.row.toRowW).promised)
    (hc : WalkO topView [] (XL topView []) H.says PySem.Challenge.rw_nz0388_01.row.toRowW d [] fun f vs => PySem.call f vs) :
    PySem.Challenge.rw_nz0388_01.row.Holds :=
  PySem.W.holds_open (q := topView) (loose := []) (Xt := fun s => xlAt topView [] s && recOk (RowW.records (OpenRow.toRowW PySem.Challenge.rw_nz0388_01.row)) s) (XP := XL topView []) (Yf := H.obs) (Ya := H.val) (YP := H.says) (N := 3228) (left_run h) H.of H.keeps (fun s e => xl_of s (Bool.and_eq_true_iff.mp e).1) XL.keeps hd hp hk (fun s e => recFacts_of (Bool.and_eq_true_iff.mp e).2) (by rfl) said (by decide +kernel) ⟨rfl, rfl, rfl, rfl, rfl, by decide +kernel⟩ hw hc
local macro_rules | `(tactic| o_head $H) => `(tactic| refine top_head $H (by assumption) (by rfl) (by rfl) (by rfl) (fun w os => by kernel_rfl) ?hw ?hc)
local macro_rules | `(tactic| o_law) => `(tactic| refine holds_law said0 fun said => ?_)
open_top hd for PySem.Challenge.rw_nz0388_01
theorem tv1 : namesOk topView (looseW topView []) (namesW topView []) = true := by
  rw [Fast.te17448422675489707002, Fast.te821141287760084731]; decide +kernel
theorem tv2 : importsNone topView = true := by rw [Fast.te2458874890965802552]; decide +kernel
end Mine
end
section
set_option Elab.async false
set_option maxRecDepth 100000
set_option maxHeartbeats 2000000
set_option linter.unusedVariables false
namespace Mine
open PySem PySem.W PySem.Calls PyProof.Rows PySem.MeetsSeq

noncomputable def fA : String → Nat := fun f =>
  if f = "Counter.__init__" then 35 else
  if f = "Counter.below" then 40 else
  if f = "Counter.support" then 47 else
  if f = "Counter.gathered" then 54 else
  if f = "Counter.turned" then 61 else
  if f = "Counter.settled" then 66 else
  if f = "Counter.groups" then 71 else
  if f = "Counter.pick" then 78 else
  if f = "Counter.plan" then 83 else
  if f = "Counter.is_ready" then 90 else
  if f = "Counter.own" then 97 else
  if f = "Counter.combined" then 102 else
  if f = "Counter.count" then 107 else
  if f = "Circuit.__init__" then 128 else
  if f = "Circuit.kind" then 142 else
  if f = "Circuit.parts" then 149 else
  if f = "Circuit.new_gate" then 156 else
  if f = "Circuit.new_input" then 163 else
  if f = "Circuit.all_of" then 170 else
  if f = "Circuit.both" then 184 else
  if f = "Circuit.either" then 191 else
  if f = "Circuit.implies" then 198 else
  if f = "Circuit.iff" then 205 else
  if f = "Circuit.unlike" then 212 else
  if f = "Circuit.choose" then 219 else
  if f = "_law_draw" then 233 else
  if f = "_law_many" then 240 else
  if f = "_law_block" then 245 else
  if f = "_law_joined" then 252 else
  if f = "_law_way" then 259 else
  if f = "_law_rows" then 266 else
  if f = "_law_put" then 273 else
  if f = "law" then 278 else
  0

noncomputable def statOk (fd : FuncData) (ps : List String) : Bool :=
  fd.closure.isEmpty && fd.globals == mainGlobals && fd.builtins == builtinsNs && !fd.scope.isCoroutine && !fd.scope.isGenerator && fd.scope.kind == .function && decide ps.Nodup && ps.all (stoOk fd.scope) &&
    fd.scope.names.all (fun x => x.2 != .cell || fd.scope.names.lookup x.1 == some .cell)

noncomputable def Body (K : Frag) (a : Nat) (ps : List String) (body : Ss) : Prop := ∃ o fd stmts, K.lookup a = some o ∧ o.data = .func fd ∧ fd.body = .stmts stmts ∧ codeIn K fd.code fd.qualname = true ∧ statOk fd ps = true ∧
  (∀ vals, vals.length = ps.length → bindArgs fd ⟨vals, []⟩ = pure ((ps.map Str.ofString).zip vals)) ∧
  ∀ (prog : Program) (w : World) (cl : String → Nat) (h0 : Heap) (f : Facts cl h0) (n : Nat), CallOk prog w cl h0 f.fa n → SB prog w cl h0 n fd.scope stmts (wpB (Call Mine.P n) body)

theorem body_Counter_init (P0 : Params) : Body (hd.heap_1 P0) 35 ["self", "circuit", "inputs"] b_Counter_init :=
  ⟨_, _, _, rfl, rfl, rfl, by kernel_rfl, by decide +kernel, fun vals h => by
    obtain ⟨v0, v1, v2, rfl⟩ := len3 h
    rfl, fun prog w cl h0 f n hC =>
    (sb_cons (ss_setAttr f.toFacts0 (se_var (by decide +kernel)) (se_var (by decide +kernel)))
    (sb_cons (ss_setAttr f.toFacts0 (se_bi (b := .tuple) f (by decide +kernel) (.cons (se_var (by decide +kernel)) (fun _ => rfl) .nil)) (se_var (by decide +kernel)))
    (sb_cons (ss_setAttr f.toFacts0 se_dict0 (se_var (by decide +kernel)))
    (sb_cons (ss_setAttr f.toFacts0 se_dict0 (se_var (by decide +kernel)))
    (sb_cons (ss_setAttr f.toFacts0 se_dict0 (se_var (by decide +kernel)))
    sb_nil)))))⟩

theorem body_Counter_below (P0 : Params) : Body (hd.heap_1 P0) 40 ["self", "gate"] b_Counter_below :=
  ⟨_, _, _, rfl, rfl, rfl, by kernel_rfl, by decide +kernel, fun vals h => by
    obtain ⟨v0, v1, rfl⟩ := len2 h
    rfl, fun prog w cl h0 f n hC =>
    (sb_cons (ss_swapped (se_tup (.cons se_dict0 (fun _ => rfl) (.cons (se_list (.cons (se_bi (b := .abs) f (by decide +kernel) (.cons (se_var (by decide +kernel)) (fun _ => rfl) .nil)) (fun _ => rfl) .nil)) (fun _ => rfl) .nil))) (by decide +kernel) (fun _ _ => rfl) (swaps_tup (by decide +kernel)))
    (sb_cons (ss_while (st_cmp (se_bi (b := .len) f (by decide +kernel) (.cons (se_var (by decide +kernel)) (fun _ => rfl) .nil)) se_int) (sb_cons (ss_assign (se_lm (m := .pop) (se_var (by decide +kernel)) .nil) (by decide +kernel))
    (sb_cons (ss_iff (st_cmp (se_var (by decide +kernel)) (se_var (by decide +kernel))) (sb_cons (ss_setIdx se_bool (se_var (by decide +kernel)) (se_var (by decide +kernel)))
    (sb_cons (ss_iff (st_cmp (se_meth f hC (se_attr f.toFacts0 (se_var (by decide +kernel))) (.cons (se_var (by decide +kernel)) (fun _ => rfl) .nil) (hP := meths_some)) se_str) (sb_cons (ss_expr (se_lm (m := .extend) (se_var (by decide +kernel)) (.cons (se_comp (se_meth f hC (se_attr f.toFacts0 (se_var (by decide +kernel))) (.cons (se_var (by decide +kernel)) (fun _ => rfl) .nil) (hP := meths_some)) (se_bi (b := .abs) f (by decide +kernel) (.cons (se_var (by decide +kernel)) (fun _ => rfl) .nil)) (by decide +kernel)) (fun _ => rfl) .nil)))
    sb_nil) sb_nil)
    sb_nil)) sb_nil)
    sb_nil)))
    (sb_cons (ss_ret (se_bi (b := .sorted) f (by decide +kernel) (.cons (se_var (by decide +kernel)) (fun _ => rfl) .nil)))
    sb_nil)))⟩

theorem body_Counter_support (P0 : Params) : Body (hd.heap_1 P0) 47 ["self", "gate"] b_Counter_support :=
  ⟨_, _, _, rfl, rfl, rfl, by kernel_rfl, by decide +kernel, fun vals h => by
    obtain ⟨v0, v1, rfl⟩ := len2 h
    rfl, fun prog w cl h0 f n hC =>
    (sb_cons (ss_iff (st_cmp (se_bi (b := .abs) f (by decide +kernel) (.cons (se_var (by decide +kernel)) (fun _ => rfl) .nil)) (se_attr f.toFacts0 (se_var (by decide +kernel)))) (sb_cons (ss_for (se_meth f hC (se_var (by decide +kernel)) (.cons (se_var (by decide +kernel)) (fun _ => rfl) .nil) (hP := meths_some)) (sb_cons (ss_iff (st_cmp (se_var (by decide +kernel)) (se_attr f.toFacts0 (se_var (by decide +kernel)))) (sb_cons (ss_setIdx (se_meth f hC (se_var (by decide +kernel)) (.cons (se_var (by decide +kernel)) (fun _ => rfl) .nil) (hP := meths_some)) (se_attr f.toFacts0 (se_var (by decide +kernel))) (se_var (by decide +kernel)))
    sb_nil) sb_nil)
    sb_nil) (by decide +kernel))
    sb_nil) sb_nil)
    (sb_cons (ss_ret (se_idx (se_attr f.toFacts0 (se_var (by decide +kernel))) (se_bi (b := .abs) f (by decide +kernel) (.cons (se_var (by decide +kernel)) (fun _ => rfl) .nil))))
    sb_nil))⟩

theorem body_Counter_gathered (P0 : Params) : Body (hd.heap_1 P0) 54 ["self", "here"] b_Counter_gathered :=
  ⟨_, _, _, rfl, rfl, rfl, by kernel_rfl, by decide +kernel, fun vals h => by
    obtain ⟨v0, v1, rfl⟩ := len2 h
    rfl, fun prog w cl h0 f n hC =>
    (sb_cons (ss_swapped (se_tup (.cons (se_meth f hC (se_attr f.toFacts0 (se_var (by decide +kernel))) (.cons (se_var (by decide +kernel)) (fun _ => rfl) .nil) (hP := meths_some)) (fun _ => rfl) (.cons se_dict0 (fun _ => rfl) .nil))) (by decide +kernel) (fun _ _ => rfl) (swaps_tup (by decide +kernel)))
    (sb_cons (ss_iff (st_cmp (se_var (by decide +kernel)) se_str) (sb_cons (ss_setIdx se_bool (se_var (by decide +kernel)) (se_var (by decide +kernel)))
    sb_nil) (sb_cons (ss_iff (st_cmp (se_var (by decide +kernel)) se_str) (sb_cons (ss_for (se_meth f hC (se_attr f.toFacts0 (se_var (by decide +kernel))) (.cons (se_var (by decide +kernel)) (fun _ => rfl) .nil) (hP := meths_some)) (sb_cons (ss_expr (se_lm (m := .update) (se_var (by decide +kernel)) (.cons (se_idx (se_attr f.toFacts0 (se_var (by decide +kernel))) (se_bi (b := .abs) f (by decide +kernel) (.cons (se_var (by decide +kernel)) (fun _ => rfl) .nil))) (fun _ => rfl) .nil)))
    sb_nil) (by decide +kernel))
    sb_nil) sb_nil)
    sb_nil))
    (sb_freeze (by decide +kernel) (sb_cons (ss_ret (se_var (by decide +kernel)))
    sb_nil))))⟩

theorem body_Counter_turned (P0 : Params) : Body (hd.heap_1 P0) 61 ["self", "gate", "table"] b_Counter_turned :=
  ⟨_, _, _, rfl, rfl, rfl, by kernel_rfl, by decide +kernel, fun vals h => by
    obtain ⟨v0, v1, v2, rfl⟩ := len3 h
    rfl, fun prog w cl h0 f n hC =>
    (sb_cons (ss_assign (se_lm (m := .get) (se_var (by decide +kernel)) (.cons (se_bi (b := .abs) f (by decide +kernel) (.cons (se_var (by decide +kernel)) (fun _ => rfl) .nil)) (fun _ => rfl) (.cons (se_bi (b := .abs) f (by decide +kernel) (.cons (se_var (by decide +kernel)) (fun _ => rfl) .nil)) (fun _ => rfl) .nil))) (by decide +kernel))
    (sb_cons (ss_ret (se_ite (st_cmp (se_var (by decide +kernel)) se_int) (se_var (by decide +kernel)) (se_neg (se_var (by decide +kernel)))))
    sb_nil))⟩

theorem body_Counter_settled (P0 : Params) : Body (hd.heap_1 P0) 66 ["self", "gate", "x", "value"] b_Counter_settled :=
  ⟨_, _, _, rfl, rfl, rfl, by kernel_rfl, by decide +kernel, fun vals h => by
    obtain ⟨v0, v1, v2, v3, rfl⟩ := len4 h
    rfl, fun prog w cl h0 f n hC =>
    (sb_cons (ss_assign (se_dict1 (se_var (by decide +kernel)) (se_var (by decide +kernel))) (by decide +kernel))
    (sb_cons (ss_for (se_meth f hC (se_var (by decide +kernel)) (.cons (se_var (by decide +kernel)) (fun _ => rfl) .nil) (hP := meths_some)) (sb_cons (ss_iff (st_and (st_cmp (se_var (by decide +kernel)) (se_var (by decide +kernel))) (st_cmp (se_var (by decide +kernel)) (se_meth f hC (se_var (by decide +kernel)) (.cons (se_var (by decide +kernel)) (fun _ => rfl) .nil) (hP := meths_some)))) (sb_cons (ss_setIdx (se_meth f hC (se_attr f.toFacts0 (se_var (by decide +kernel))) (.cons (se_comp (se_meth f hC (se_attr f.toFacts0 (se_var (by decide +kernel))) (.cons (se_var (by decide +kernel)) (fun _ => rfl) .nil) (hP := meths_some)) (se_meth f hC (se_var (by decide +kernel)) (.cons (se_var (by decide +kernel)) (fun _ => rfl) (.cons (se_var (by decide +kernel)) (fun _ => rfl) .nil)) (hP := meths_some)) (by decide +kernel)) (fun _ => rfl) .nil) (hP := meths_some)) (se_var (by decide +kernel)) (se_var (by decide +kernel)))
    sb_nil) sb_nil)
    sb_nil) (by decide +kernel))
    (sb_cons (ss_ret (se_idx (se_var (by decide +kernel)) (se_var (by decide +kernel))))
    sb_nil)))⟩

theorem body_Counter_groups (P0 : Params) : Body (hd.heap_1 P0) 71 ["self", "parts"] b_Counter_groups :=
  ⟨_, _, _, rfl, rfl, rfl, by kernel_rfl, by decide +kernel, fun vals h => by
    obtain ⟨v0, v1, rfl⟩ := len2 h
    rfl, fun prog w cl h0 f n hC =>
    (sb_cons (ss_assign (se_flist .nil) (by decide +kernel))
    (sb_cons (ss_for (se_var (by decide +kernel)) (sb_cons (ss_assigns (se_tup (.cons (se_flist (.cons (se_var (by decide +kernel)) (fun _ => rfl) .nil)) (fun _ => rfl) (.cons (se_bi (b := .dict) f (by decide +kernel) (.cons (se_meth f hC (se_var (by decide +kernel)) (.cons (se_var (by decide +kernel)) (fun _ => rfl) .nil) (hP := meths_some)) (fun _ => rfl) .nil)) (fun _ => rfl) .nil))) (by decide +kernel) (by decide +kernel) (fun _ _ => rfl) (swaps_tup (by decide +kernel)))
    (sb_cons (ss_assign (se_list .nil) (by decide +kernel))
    (sb_cons (ss_for (se_var (by decide +kernel)) (sb_cons (ss_iff (st_cmp (se_bi (b := .len) f (by decide +kernel) (.cons (se_compIf (se_var (by decide +kernel)) (se_var (by decide +kernel)) (st_cmp (se_var (by decide +kernel)) (se_var (by decide +kernel))) (by decide +kernel)) (fun _ => rfl) .nil)) se_int) (sb_cons (ss_assign (se_bin (se_var (by decide +kernel)) (se_var (by decide +kernel))) (by decide +kernel))
    (sb_cons (ss_expr (se_lm (m := .update) (se_var (by decide +kernel)) (.cons (se_var (by decide +kernel)) (fun _ => rfl) .nil)))
    sb_nil)) (sb_cons (ss_expr (se_lm (m := .append) (se_var (by decide +kernel)) (.cons (se_tup (.cons (se_var (by decide +kernel)) (fun _ => rfl) (.cons (se_var (by decide +kernel)) (fun _ => rfl) .nil))) (fun _ => rfl) .nil)))
    sb_nil))
    sb_nil) (by decide +kernel))
    (sb_freeze (by decide +kernel) (sb_cons (ss_assign (se_bin (se_var (by decide +kernel)) (se_flist (.cons (se_tup (.cons (se_var (by decide +kernel)) (fun _ => rfl) (.cons (se_var (by decide +kernel)) (fun _ => rfl) .nil))) (fun _ => rfl) .nil))) (by decide +kernel))
    sb_nil))))) (by decide +kernel))
    (sb_cons (ss_ret (se_comp (se_var (by decide +kernel)) (se_var (by decide +kernel)) (by decide +kernel)))
    sb_nil)))⟩

theorem body_Counter_pick (P0 : Params) : Body (hd.heap_1 P0) 78 ["self", "parts"] b_Counter_pick :=
  ⟨_, _, _, rfl, rfl, rfl, by kernel_rfl, by decide +kernel, fun vals h => by
    obtain ⟨v0, v1, rfl⟩ := len2 h
    rfl, fun prog w cl h0 f n hC =>
    (sb_cons (ss_assign se_dict0 (by decide +kernel))
    (sb_cons (ss_for (se_var (by decide +kernel)) (sb_cons (ss_for (se_meth f hC (se_var (by decide +kernel)) (.cons (se_var (by decide +kernel)) (fun _ => rfl) .nil) (hP := meths_some)) (sb_cons (ss_setIdx (se_bin (se_lm (m := .get) (se_var (by decide +kernel)) (.cons (se_var (by decide +kernel)) (fun _ => rfl) (.cons se_int (fun _ => rfl) .nil))) se_int) (se_var (by decide +kernel)) (se_var (by decide +kernel)))
    sb_nil) (by decide +kernel))
    sb_nil) (by decide +kernel))
    (sb_cons (ss_assign se_int (by decide +kernel))
    (sb_cons (ss_for (se_bi (b := .sorted) f (by decide +kernel) (.cons (se_var (by decide +kernel)) (fun _ => rfl) .nil)) (sb_cons (ss_iff (st_or (st_cmp (se_var (by decide +kernel)) se_int) (st_cmp (se_idx (se_var (by decide +kernel)) (se_var (by decide +kernel))) (se_idx (se_var (by decide +kernel)) (se_var (by decide +kernel))))) (sb_cons (ss_assign (se_var (by decide +kernel)) (by decide +kernel))
    sb_nil) sb_nil)
    sb_nil) (by decide +kernel))
    (sb_cons (ss_ret (se_var (by decide +kernel)))
    sb_nil)))))⟩

theorem body_Counter_plan (P0 : Params) : Body (hd.heap_1 P0) 83 ["self", "gate"] b_Counter_plan :=
  ⟨_, _, _, rfl, rfl, rfl, by kernel_rfl, by decide +kernel, fun vals h => by
    obtain ⟨v0, v1, rfl⟩ := len2 h
    rfl, fun prog w cl h0 f n hC =>
    (sb_cons (ss_iff (st_cmp (se_var (by decide +kernel)) (se_attr f.toFacts0 (se_var (by decide +kernel)))) (sb_cons (ss_assign (se_meth f hC (se_var (by decide +kernel)) (.cons (se_meth f hC (se_attr f.toFacts0 (se_var (by decide +kernel))) (.cons (se_var (by decide +kernel)) (fun _ => rfl) .nil) (hP := meths_some)) (fun _ => rfl) .nil) (hP := meths_some)) (by decide +kernel))
    (sb_cons (ss_iff (st_cmp (se_bi (b := .len) f (by decide +kernel) (.cons (se_var (by decide +kernel)) (fun _ => rfl) .nil)) se_int) (sb_cons (ss_setIdx (se_tup (.cons se_str (fun _ => rfl) (.cons (se_comp (se_var (by decide +kernel)) (se_meth f hC (se_attr f.toFacts0 (se_var (by decide +kernel))) (.cons (se_var (by decide +kernel)) (fun _ => rfl) .nil) (hP := meths_some)) (by decide +kernel)) (fun _ => rfl) .nil))) (se_attr f.toFacts0 (se_var (by decide +kernel))) (se_var (by decide +kernel)))
    sb_nil) (sb_cons (ss_assign (se_meth f hC (se_var (by decide +kernel)) (.cons (se_idx (se_var (by decide +kernel)) se_int) (fun _ => rfl) .nil) (hP := meths_some)) (by decide +kernel))
    (sb_cons (ss_setIdx (se_tup (.cons se_str (fun _ => rfl) (.cons (se_flist (.cons (se_meth f hC (se_var (by decide +kernel)) (.cons (se_var (by decide +kernel)) (fun _ => rfl) (.cons (se_var (by decide +kernel)) (fun _ => rfl) (.cons (se_neg se_int) (fun _ => rfl) .nil))) (hP := meths_some)) (fun _ => rfl) (.cons (se_meth f hC (se_var (by decide +kernel)) (.cons (se_var (by decide +kernel)) (fun _ => rfl) (.cons (se_var (by decide +kernel)) (fun _ => rfl) (.cons se_int (fun _ => rfl) .nil))) (hP := meths_some)) (fun _ => rfl) .nil))) (fun _ => rfl) .nil))) (se_attr f.toFacts0 (se_var (by decide +kernel))) (se_var (by decide +kernel)))
    sb_nil)))
    sb_nil)) sb_nil)
    (sb_cons (ss_ret (se_idx (se_attr f.toFacts0 (se_var (by decide +kernel))) (se_var (by decide +kernel))))
    sb_nil))⟩

theorem body_Counter_is_ready (P0 : Params) : Body (hd.heap_1 P0) 90 ["self", "gate"] b_Counter_is_ready :=
  ⟨_, _, _, rfl, rfl, rfl, by kernel_rfl, by decide +kernel, fun vals h => by
    obtain ⟨v0, v1, rfl⟩ := len2 h
    rfl, fun prog w cl h0 f n hC =>
    (sb_cons (ss_ret (se_or (se_cmp (se_bi (b := .abs) f (by decide +kernel) (.cons (se_var (by decide +kernel)) (fun _ => rfl) .nil)) (se_attr f.toFacts0 (se_var (by decide +kernel)))) (se_cmp (se_meth f hC (se_attr f.toFacts0 (se_var (by decide +kernel))) (.cons (se_bi (b := .abs) f (by decide +kernel) (.cons (se_var (by decide +kernel)) (fun _ => rfl) .nil)) (fun _ => rfl) .nil) (hP := meths_some)) se_str)))
    sb_nil)⟩

theorem body_Counter_own (P0 : Params) : Body (hd.heap_1 P0) 97 ["self", "gate"] b_Counter_own :=
  ⟨_, _, _, rfl, rfl, rfl, by kernel_rfl, by decide +kernel, fun vals h => by
    obtain ⟨v0, v1, rfl⟩ := len2 h
    rfl, fun prog w cl h0 f n hC =>
    (sb_cons (ss_iff (st_cmp (se_meth f hC (se_attr f.toFacts0 (se_var (by decide +kernel))) (.cons (se_bi (b := .abs) f (by decide +kernel) (.cons (se_var (by decide +kernel)) (fun _ => rfl) .nil)) (fun _ => rfl) .nil) (hP := meths_some)) se_str) (sb_cons (ss_ret (se_ite (st_cmp (se_var (by decide +kernel)) se_int) se_int se_int))
    sb_nil) sb_nil)
    (sb_cons (ss_iff (st_cmp (se_meth f hC (se_attr f.toFacts0 (se_var (by decide +kernel))) (.cons (se_bi (b := .abs) f (by decide +kernel) (.cons (se_var (by decide +kernel)) (fun _ => rfl) .nil)) (fun _ => rfl) .nil) (hP := meths_some)) se_str) (sb_cons (ss_ret se_int)
    sb_nil) sb_nil)
    (sb_cons (ss_assign (se_idx (se_attr f.toFacts0 (se_var (by decide +kernel))) (se_bi (b := .abs) f (by decide +kernel) (.cons (se_var (by decide +kernel)) (fun _ => rfl) .nil))) (by decide +kernel))
    (sb_cons (ss_ret (se_ite (st_cmp (se_var (by decide +kernel)) se_int) (se_var (by decide +kernel)) (se_bin (se_bin se_int (se_bi (b := .len) f (by decide +kernel) (.cons (se_meth f hC (se_var (by decide +kernel)) (.cons (se_var (by decide +kernel)) (fun _ => rfl) .nil) (hP := meths_some)) (fun _ => rfl) .nil))) (se_var (by decide +kernel)))))
    sb_nil))))⟩

theorem body_Counter_combined (P0 : Params) : Body (hd.heap_1 P0) 102 ["self", "gate"] b_Counter_combined :=
  ⟨_, _, _, rfl, rfl, rfl, by kernel_rfl, by decide +kernel, fun vals h => by
    obtain ⟨v0, v1, rfl⟩ := len2 h
    rfl, fun prog w cl h0 f n hC =>
    (sb_cons (ss_assigns (se_meth f hC (se_var (by decide +kernel)) (.cons (se_var (by decide +kernel)) (fun _ => rfl) .nil) (hP := meths_some)) (by decide +kernel) (by decide +kernel) (fun _ _ => rfl) (fun _ _ => rfl))
    (sb_cons (ss_iff (st_cmp (se_var (by decide +kernel)) se_str) (sb_cons (ss_assign se_int (by decide +kernel))
    (sb_cons (ss_for (se_var (by decide +kernel)) (sb_cons (ss_assign (se_bin (se_var (by decide +kernel)) (se_meth f hC (se_var (by decide +kernel)) (.cons (se_var (by decide +kernel)) (fun _ => rfl) .nil) (hP := meths_some))) (by decide +kernel))
    sb_nil) (by decide +kernel))
    (sb_cons (ss_ret (se_var (by decide +kernel)))
    sb_nil))) sb_nil)
    (sb_cons (ss_assign (se_bin (se_bi (b := .len) f (by decide +kernel) (.cons (se_meth f hC (se_var (by decide +kernel)) (.cons (se_var (by decide +kernel)) (fun _ => rfl) .nil) (hP := meths_some)) (fun _ => rfl) .nil)) se_int) (by decide +kernel))
    (sb_cons (ss_ret (se_bi (b := .sum) f (by decide +kernel) (.cons (se_comp (se_var (by decide +kernel)) (se_bin (se_meth f hC (se_var (by decide +kernel)) (.cons (se_var (by decide +kernel)) (fun _ => rfl) .nil) (hP := meths_some)) (se_bin (se_var (by decide +kernel)) (se_bi (b := .len) f (by decide +kernel) (.cons (se_meth f hC (se_var (by decide +kernel)) (.cons (se_var (by decide +kernel)) (fun _ => rfl) .nil) (hP := meths_some)) (fun _ => rfl) .nil)))) (by decide +kernel)) (fun _ => rfl) .nil)))
    sb_nil))))⟩

theorem body_Counter_count (P0 : Params) : Body (hd.heap_1 P0) 107 ["self", "gate"] b_Counter_count :=
  ⟨_, _, _, rfl, rfl, rfl, by kernel_rfl, by decide +kernel, fun vals h => by
    obtain ⟨v0, v1, rfl⟩ := len2 h
    rfl, fun prog w cl h0 f n hC =>
    (sb_cons (ss_assign (se_list (.cons (se_bi (b := .abs) f (by decide +kernel) (.cons (se_var (by decide +kernel)) (fun _ => rfl) .nil)) (fun _ => rfl) .nil)) (by decide +kernel))
    (sb_cons (ss_while (st_cmp (se_bi (b := .len) f (by decide +kernel) (.cons (se_var (by decide +kernel)) (fun _ => rfl) .nil)) se_int) (sb_cons (ss_assign (se_idx (se_var (by decide +kernel)) (se_neg se_int)) (by decide +kernel))
    (sb_cons (ss_iff (st_val (se_meth f hC (se_var (by decide +kernel)) (.cons (se_var (by decide +kernel)) (fun _ => rfl) .nil) (hP := meths_some))) (sb_cons (ss_expr (se_lm (m := .pop) (se_var (by decide +kernel)) .nil))
    (sb_cons ss_cont
    sb_nil)) sb_nil)
    (sb_cons (ss_usedIf (se_idx (se_meth f hC (se_var (by decide +kernel)) (.cons (se_var (by decide +kernel)) (fun _ => rfl) .nil) (hP := meths_some)) se_int) (se_bi (b := .abs) f (by decide +kernel) (.cons (se_var (by decide +kernel)) (fun _ => rfl) .nil)) (st_not (st_val (se_meth f hC (se_var (by decide +kernel)) (.cons (se_var (by decide +kernel)) (fun _ => rfl) .nil) (hP := meths_some)))) (by decide +kernel) (by decide +kernel) (by decide +kernel))
    (sb_cons (ss_iff (st_cmp (se_bi (b := .len) f (by decide +kernel) (.cons (se_var (by decide +kernel)) (fun _ => rfl) .nil)) se_int) (sb_cons (ss_expr (se_lm (m := .extend) (se_var (by decide +kernel)) (.cons (se_var (by decide +kernel)) (fun _ => rfl) .nil)))
    sb_nil) (sb_cons (ss_setIdx (se_meth f hC (se_var (by decide +kernel)) (.cons (se_var (by decide +kernel)) (fun _ => rfl) .nil) (hP := meths_some)) (se_attr f.toFacts0 (se_var (by decide +kernel))) (se_var (by decide +kernel)))
    sb_nil))
    sb_nil)))))
    (sb_cons (ss_ret (se_bin (se_meth f hC (se_var (by decide +kernel)) (.cons (se_var (by decide +kernel)) (fun _ => rfl) .nil) (hP := meths_some)) (se_bin (se_bi (b := .len) f (by decide +kernel) (.cons (se_attr f.toFacts0 (se_var (by decide +kernel))) (fun _ => rfl) .nil)) (se_bi (b := .len) f (by decide +kernel) (.cons (se_meth f hC (se_var (by decide +kernel)) (.cons (se_var (by decide +kernel)) (fun _ => rfl) .nil) (hP := meths_some)) (fun _ => rfl) .nil)))))
    sb_nil)))⟩

theorem body_Circuit_init (P0 : Params) : Body (hd.heap_1 P0) 128 ["self"] b_Circuit_init :=
  ⟨_, _, _, rfl, rfl, rfl, by kernel_rfl, by decide +kernel, fun vals h => by
    obtain ⟨v0, rfl⟩ := len1 h
    rfl, fun prog w cl h0 f n hC =>
    (sb_cons (ss_setAttr f.toFacts0 (se_list (.cons se_str (fun _ => rfl) (.cons se_str (fun _ => rfl) .nil))) (se_var (by decide +kernel)))
    (sb_cons (ss_setAttr f.toFacts0 (se_list (.cons (se_tup .nil) (fun _ => rfl) (.cons (se_tup .nil) (fun _ => rfl) .nil))) (se_var (by decide +kernel)))
    (sb_cons (ss_setAttr f.toFacts0 se_dict0 (se_var (by decide +kernel)))
    sb_nil)))⟩

theorem body_Circuit_kind (P0 : Params) : Body (hd.heap_1 P0) 142 ["self", "g"] b_Circuit_kind :=
  ⟨_, _, _, rfl, rfl, rfl, by kernel_rfl, by decide +kernel, fun vals h => by
    obtain ⟨v0, v1, rfl⟩ := len2 h
    rfl, fun prog w cl h0 f n hC =>
    (sb_cons (ss_ret (se_idx (se_attr f.toFacts0 (se_var (by decide +kernel))) (se_bi (b := .abs) f (by decide +kernel) (.cons (se_var (by decide +kernel)) (fun _ => rfl) .nil))))
    sb_nil)⟩

theorem body_Circuit_parts (P0 : Params) : Body (hd.heap_1 P0) 149 ["self", "g"] b_Circuit_parts :=
  ⟨_, _, _, rfl, rfl, rfl, by kernel_rfl, by decide +kernel, fun vals h => by
    obtain ⟨v0, v1, rfl⟩ := len2 h
    rfl, fun prog w cl h0 f n hC =>
    (sb_cons (ss_ret (se_idx (se_attr f.toFacts0 (se_var (by decide +kernel))) (se_bi (b := .abs) f (by decide +kernel) (.cons (se_var (by decide +kernel)) (fun _ => rfl) .nil))))
    sb_nil)⟩

theorem body_Circuit_new_gate (P0 : Params) : Body (hd.heap_1 P0) 156 ["self", "kind", "parts"] b_Circuit_new_gate :=
  ⟨_, _, _, rfl, rfl, rfl, by kernel_rfl, by decide +kernel, fun vals h => by
    obtain ⟨v0, v1, v2, rfl⟩ := len3 h
    rfl, fun prog w cl h0 f n hC =>
    (sb_cons (ss_expr (se_lm (m := .append) (se_attr f.toFacts0 (se_var (by decide +kernel))) (.cons (se_var (by decide +kernel)) (fun _ => rfl) .nil)))
    (sb_cons (ss_expr (se_lm (m := .append) (se_attr f.toFacts0 (se_var (by decide +kernel))) (.cons (se_var (by decide +kernel)) (fun _ => rfl) .nil)))
    (sb_cons (ss_ret (se_bin (se_bi (b := .len) f (by decide +kernel) (.cons (se_attr f.toFacts0 (se_var (by decide +kernel))) (fun _ => rfl) .nil)) se_int))
    sb_nil)))⟩

theorem body_Circuit_new_input (P0 : Params) : Body (hd.heap_1 P0) 163 ["self"] b_Circuit_new_input :=
  ⟨_, _, _, rfl, rfl, rfl, by kernel_rfl, by decide +kernel, fun vals h => by
    obtain ⟨v0, rfl⟩ := len1 h
    rfl, fun prog w cl h0 f n hC =>
    (sb_cons (ss_ret (se_meth f hC (se_var (by decide +kernel)) (.cons se_str (fun _ => rfl) (.cons (se_tup .nil) (fun _ => rfl) .nil)) (hP := meths_some)))
    sb_nil)⟩

theorem body_Circuit_all_of (P0 : Params) : Body (hd.heap_1 P0) 170 ["self", "gates"] b_Circuit_all_of :=
  ⟨_, _, _, rfl, rfl, rfl, by kernel_rfl, by decide +kernel, fun vals h => by
    obtain ⟨v0, v1, rfl⟩ := len2 h
    rfl, fun prog w cl h0 f n hC =>
    (sb_cons (ss_assign se_dict0 (by decide +kernel))
    (sb_cons (ss_for (se_var (by decide +kernel)) (sb_cons (ss_iff (st_or (st_cmp (se_var (by decide +kernel)) (se_neg se_int)) (st_cmp (se_neg (se_var (by decide +kernel))) (se_var (by decide +kernel)))) (sb_cons (ss_ret (se_neg se_int))
    sb_nil) sb_nil)
    (sb_cons (ss_iff (st_cmp (se_var (by decide +kernel)) se_int) (sb_cons (ss_setIdx se_bool (se_var (by decide +kernel)) (se_var (by decide +kernel)))
    sb_nil) sb_nil)
    sb_nil)) (by decide +kernel))
    (sb_cons (ss_assign (se_bi (b := .tuple) f (by decide +kernel) (.cons (se_bi (b := .sorted) f (by decide +kernel) (.cons (se_var (by decide +kernel)) (fun _ => rfl) .nil)) (fun _ => rfl) .nil)) (by decide +kernel))
    (sb_cons (ss_iff (st_cmp (se_bi (b := .len) f (by decide +kernel) (.cons (se_var (by decide +kernel)) (fun _ => rfl) .nil)) se_int) (sb_cons (ss_ret (se_ite (st_cmp (se_bi (b := .len) f (by decide +kernel) (.cons (se_var (by decide +kernel)) (fun _ => rfl) .nil)) se_int) (se_idx (se_var (by decide +kernel)) se_int) se_int))
    sb_nil) sb_nil)
    (sb_cons (ss_iff (st_cmp (se_var (by decide +kernel)) (se_attr f.toFacts0 (se_var (by decide +kernel)))) (sb_cons (ss_setIdx (se_meth f hC (se_var (by decide +kernel)) (.cons se_str (fun _ => rfl) (.cons (se_var (by decide +kernel)) (fun _ => rfl) .nil)) (hP := meths_some)) (se_attr f.toFacts0 (se_var (by decide +kernel))) (se_var (by decide +kernel)))
    sb_nil) sb_nil)
    (sb_cons (ss_ret (se_idx (se_attr f.toFacts0 (se_var (by decide +kernel))) (se_var (by decide +kernel))))
    sb_nil))))))⟩

theorem body_Circuit_both (P0 : Params) : Body (hd.heap_1 P0) 184 ["self", "a", "b"] b_Circuit_both :=
  ⟨_, _, _, rfl, rfl, rfl, by kernel_rfl, by decide +kernel, fun vals h => by
    obtain ⟨v0, v1, v2, rfl⟩ := len3 h
    rfl, fun prog w cl h0 f n hC =>
    (sb_cons (ss_ret (se_meth f hC (se_var (by decide +kernel)) (.cons (se_tup (.cons (se_var (by decide +kernel)) (fun _ => rfl) (.cons (se_var (by decide +kernel)) (fun _ => rfl) .nil))) (fun _ => rfl) .nil) (hP := meths_some)))
    sb_nil)⟩

theorem body_Circuit_either (P0 : Params) : Body (hd.heap_1 P0) 191 ["self", "a", "b"] b_Circuit_either :=
  ⟨_, _, _, rfl, rfl, rfl, by kernel_rfl, by decide +kernel, fun vals h => by
    obtain ⟨v0, v1, v2, rfl⟩ := len3 h
    rfl, fun prog w cl h0 f n hC =>
    (sb_cons (ss_ret (se_neg (se_meth f hC (se_var (by decide +kernel)) (.cons (se_tup (.cons (se_neg (se_var (by decide +kernel))) (fun _ => rfl) (.cons (se_neg (se_var (by decide +kernel))) (fun _ => rfl) .nil))) (fun _ => rfl) .nil) (hP := meths_some))))
    sb_nil)⟩

theorem body_Circuit_implies (P0 : Params) : Body (hd.heap_1 P0) 198 ["self", "a", "b"] b_Circuit_implies :=
  ⟨_, _, _, rfl, rfl, rfl, by kernel_rfl, by decide +kernel, fun vals h => by
    obtain ⟨v0, v1, v2, rfl⟩ := len3 h
    rfl, fun prog w cl h0 f n hC =>
    (sb_cons (ss_ret (se_neg (se_meth f hC (se_var (by decide +kernel)) (.cons (se_tup (.cons (se_var (by decide +kernel)) (fun _ => rfl) (.cons (se_neg (se_var (by decide +kernel))) (fun _ => rfl) .nil))) (fun _ => rfl) .nil) (hP := meths_some))))
    sb_nil)⟩

theorem body_Circuit_iff (P0 : Params) : Body (hd.heap_1 P0) 205 ["self", "a", "b"] b_Circuit_iff :=
  ⟨_, _, _, rfl, rfl, rfl, by kernel_rfl, by decide +kernel, fun vals h => by
    obtain ⟨v0, v1, v2, rfl⟩ := len3 h
    rfl, fun prog w cl h0 f n hC =>
    (sb_cons (ss_ret (se_meth f hC (se_var (by decide +kernel)) (.cons (se_tup (.cons (se_meth f hC (se_var (by decide +kernel)) (.cons (se_var (by decide +kernel)) (fun _ => rfl) (.cons (se_var (by decide +kernel)) (fun _ => rfl) .nil)) (hP := meths_some)) (fun _ => rfl) (.cons (se_meth f hC (se_var (by decide +kernel)) (.cons (se_var (by decide +kernel)) (fun _ => rfl) (.cons (se_var (by decide +kernel)) (fun _ => rfl) .nil)) (hP := meths_some)) (fun _ => rfl) .nil))) (fun _ => rfl) .nil) (hP := meths_some)))
    sb_nil)⟩

theorem body_Circuit_unlike (P0 : Params) : Body (hd.heap_1 P0) 212 ["self", "a", "b"] b_Circuit_unlike :=
  ⟨_, _, _, rfl, rfl, rfl, by kernel_rfl, by decide +kernel, fun vals h => by
    obtain ⟨v0, v1, v2, rfl⟩ := len3 h
    rfl, fun prog w cl h0 f n hC =>
    (sb_cons (ss_ret (se_neg (se_meth f hC (se_var (by decide +kernel)) (.cons (se_var (by decide +kernel)) (fun _ => rfl) (.cons (se_var (by decide +kernel)) (fun _ => rfl) .nil)) (hP := meths_some))))
    sb_nil)⟩

theorem body_Circuit_choose (P0 : Params) : Body (hd.heap_1 P0) 219 ["self", "c", "a", "b"] b_Circuit_choose :=
  ⟨_, _, _, rfl, rfl, rfl, by kernel_rfl, by decide +kernel, fun vals h => by
    obtain ⟨v0, v1, v2, v3, rfl⟩ := len4 h
    rfl, fun prog w cl h0 f n hC =>
    (sb_cons (ss_ret (se_meth f hC (se_var (by decide +kernel)) (.cons (se_tup (.cons (se_meth f hC (se_var (by decide +kernel)) (.cons (se_var (by decide +kernel)) (fun _ => rfl) (.cons (se_var (by decide +kernel)) (fun _ => rfl) .nil)) (hP := meths_some)) (fun _ => rfl) (.cons (se_meth f hC (se_var (by decide +kernel)) (.cons (se_neg (se_var (by decide +kernel))) (fun _ => rfl) (.cons (se_var (by decide +kernel)) (fun _ => rfl) .nil)) (hP := meths_some)) (fun _ => rfl) .nil))) (fun _ => rfl) .nil) (hP := meths_some)))
    sb_nil)⟩

theorem body_law_draw (P0 : Params) : Body (hd.heap_1 P0) 233 ["feed", "many"] b_law_draw :=
  ⟨_, _, _, rfl, rfl, rfl, by kernel_rfl, by decide +kernel, fun vals h => by
    obtain ⟨v0, v1, rfl⟩ := len2 h
    rfl, fun prog w cl h0 f n hC =>
    (sb_cons (ss_assign (se_idx (se_var (by decide +kernel)) se_str) (by decide +kernel))
    (sb_cons (ss_setIdx (se_bin (se_var (by decide +kernel)) se_int) (se_var (by decide +kernel)) se_str)
    (sb_cons (ss_iff (st_cmp (se_var (by decide +kernel)) (se_bi (b := .len) f (by decide +kernel) (.cons (se_idx (se_var (by decide +kernel)) se_str) (fun _ => rfl) .nil))) (sb_cons (ss_ret (se_bin (se_bi (b := .abs) f (by decide +kernel) (.cons (se_idx (se_idx (se_var (by decide +kernel)) se_str) (se_var (by decide +kernel))) (fun _ => rfl) .nil)) (se_var (by decide +kernel))))
    sb_nil) sb_nil)
    (sb_cons (ss_ret (se_bin (se_bin (se_bin (se_bin (se_bin (se_bin se_int (se_idx (se_var (by decide +kernel)) se_str)) (se_bin (se_bin se_int (se_var (by decide +kernel))) (se_var (by decide +kernel)))) (se_bin se_int (se_var (by decide +kernel)))) se_int) se_int) (se_var (by decide +kernel))))
    sb_nil))))⟩

theorem body_law_many (P0 : Params) : Body (hd.heap_1 P0) 240 ["table"] b_law_many :=
  ⟨_, _, _, rfl, rfl, rfl, by kernel_rfl, by decide +kernel, fun vals h => by
    obtain ⟨v0, rfl⟩ := len1 h
    rfl, fun prog w cl h0 f n hC =>
    (sb_cons (ss_ret (se_lm (m := .count) (se_var (by decide +kernel)) (.cons se_bool (fun _ => rfl) .nil)))
    sb_nil)⟩

theorem body_law_block (P0 : Params) : Body (hd.heap_1 P0) 245 ["feed", "circuit", "seen", "most"] b_law_block :=
  ⟨_, _, _, rfl, rfl, rfl, by kernel_rfl, by decide +kernel, fun vals h => by
    obtain ⟨v0, v1, v2, v3, rfl⟩ := len4 h
    rfl, fun prog w cl h0 f n hC =>
    (sb_cons (ss_assign (se_bin se_int (se_call f hC (by decide) (by decide +kernel) (by decide +kernel) (.cons (se_var (by decide +kernel)) (fun _ => rfl) (.cons (se_var (by decide +kernel)) (fun _ => rfl) .nil)))) (by decide +kernel))
    (sb_cons (ss_used (se_bi (b := .range) f (by decide +kernel) (.cons (se_var (by decide +kernel)) (fun _ => rfl) .nil)) (se_meth f hC (se_var (by decide +kernel)) .nil (hP := meths_some)) (by decide +kernel) (by decide +kernel) (by decide +kernel))
    (sb_cons (ss_expr (se_lm (m := .extend) (se_var (by decide +kernel)) (.cons (se_var (by decide +kernel)) (fun _ => rfl) .nil)))
    (sb_cons (ss_assigns (se_tup (.cons (se_idx (se_var (by decide +kernel)) se_int) (fun _ => rfl) (.cons (se_comp (se_bi (b := .range) f (by decide +kernel) (.cons (se_bin se_int (se_var (by decide +kernel))) (fun _ => rfl) .nil)) (se_cmp (se_bin (se_var (by decide +kernel)) se_int) se_int) (by decide +kernel)) (fun _ => rfl) .nil))) (by decide +kernel) (by decide +kernel) (fun _ _ => rfl) (swaps_tup (by decide +kernel)))
    (sb_cons (ss_for (se_bi (b := .range) f (by decide +kernel) (.cons se_int (fun _ => rfl) (.cons (se_var (by decide +kernel)) (fun _ => rfl) .nil))) (sb_cons (ss_assigns (se_tup (.cons (se_call f hC (by decide) (by decide +kernel) (by decide +kernel) (.cons (se_var (by decide +kernel)) (fun _ => rfl) (.cons se_int (fun _ => rfl) .nil))) (fun _ => rfl) (.cons (se_cmp (se_call f hC (by decide) (by decide +kernel) (by decide +kernel) (.cons (se_var (by decide +kernel)) (fun _ => rfl) (.cons se_int (fun _ => rfl) .nil))) se_int) (fun _ => rfl) .nil))) (by decide +kernel) (by decide +kernel) (fun _ _ => rfl) (swaps_tup (by decide +kernel)))
    (sb_cons (ss_assigns (se_tup (.cons (se_ite (st_val (se_var (by decide +kernel))) (se_idx (se_var (by decide +kernel)) (se_var (by decide +kernel))) (se_bin se_int (se_idx (se_var (by decide +kernel)) (se_var (by decide +kernel))))) (fun _ => rfl) (.cons (se_comp (se_bi (b := .range) f (by decide +kernel) (.cons (se_bin se_int (se_var (by decide +kernel))) (fun _ => rfl) .nil)) (se_cmp (se_cmp (se_bin (se_bin (se_var (by decide +kernel)) (se_bin se_int (se_var (by decide +kernel)))) se_int) se_int) (se_var (by decide +kernel))) (by decide +kernel)) (fun _ => rfl) .nil))) (by decide +kernel) (by decide +kernel) (fun _ _ => rfl) (swaps_tup (by decide +kernel)))
    (sb_cons (ss_assign (se_call f hC (by decide) (by decide +kernel) (by decide +kernel) (.cons (se_var (by decide +kernel)) (fun _ => rfl) (.cons (se_var (by decide +kernel)) (fun _ => rfl) (.cons (se_var (by decide +kernel)) (fun _ => rfl) (.cons (se_var (by decide +kernel)) (fun _ => rfl) .nil))))) (by decide +kernel))
    (sb_cons (ss_assign (se_comp (se_bi (b := .range) f (by decide +kernel) (.cons (se_bin se_int (se_var (by decide +kernel))) (fun _ => rfl) .nil)) (se_call f hC (by decide) (by decide +kernel) (by decide +kernel) (.cons (se_var (by decide +kernel)) (fun _ => rfl) (.cons (se_idx (se_var (by decide +kernel)) (se_var (by decide +kernel))) (fun _ => rfl) (.cons (se_idx (se_var (by decide +kernel)) (se_var (by decide +kernel))) (fun _ => rfl) .nil)))) (by decide +kernel)) (by decide +kernel) (hs := swaps_comp (by decide +kernel)))
    sb_nil)))) (by decide +kernel))
    (sb_cons (ss_ret (se_tup (.cons (se_var (by decide +kernel)) (fun _ => rfl) (.cons (se_call f hC (by decide) (by decide +kernel) (by decide +kernel) (.cons (se_var (by decide +kernel)) (fun _ => rfl) .nil)) (fun _ => rfl) (.cons (se_var (by decide +kernel)) (fun _ => rfl) .nil)))))
    sb_nil))))))⟩

theorem body_law_joined (P0 : Params) : Body (hd.heap_1 P0) 252 ["circuit", "one", "other", "way"] b_law_joined :=
  ⟨_, _, _, rfl, rfl, rfl, by kernel_rfl, by decide +kernel, fun vals h => by
    obtain ⟨v0, v1, v2, v3, rfl⟩ := len4 h
    rfl, fun prog w cl h0 f n hC =>
    (sb_cons (ss_iff (st_cmp (se_var (by decide +kernel)) se_int) (sb_cons (ss_ret (se_meth f hC (se_var (by decide +kernel)) (.cons (se_var (by decide +kernel)) (fun _ => rfl) (.cons (se_var (by decide +kernel)) (fun _ => rfl) .nil)) (hP := meths_some)))
    sb_nil) sb_nil)
    (sb_cons (ss_iff (st_cmp (se_var (by decide +kernel)) se_int) (sb_cons (ss_ret (se_meth f hC (se_var (by decide +kernel)) (.cons (se_var (by decide +kernel)) (fun _ => rfl) (.cons (se_var (by decide +kernel)) (fun _ => rfl) .nil)) (hP := meths_some)))
    sb_nil) sb_nil)
    (sb_cons (ss_ret (se_ite (st_cmp (se_var (by decide +kernel)) se_int) (se_meth f hC (se_var (by decide +kernel)) (.cons (se_var (by decide +kernel)) (fun _ => rfl) (.cons (se_var (by decide +kernel)) (fun _ => rfl) .nil)) (hP := meths_some)) (se_meth f hC (se_var (by decide +kernel)) (.cons (se_var (by decide +kernel)) (fun _ => rfl) (.cons (se_var (by decide +kernel)) (fun _ => rfl) .nil)) (hP := meths_some))))
    sb_nil)))⟩

theorem body_law_way (P0 : Params) : Body (hd.heap_1 P0) 259 ["way", "one", "other"] b_law_way :=
  ⟨_, _, _, rfl, rfl, rfl, by kernel_rfl, by decide +kernel, fun vals h => by
    obtain ⟨v0, v1, v2, rfl⟩ := len3 h
    rfl, fun prog w cl h0 f n hC =>
    (sb_cons (ss_iff (st_cmp (se_var (by decide +kernel)) se_int) (sb_cons (ss_ret (se_ite (st_cmp (se_var (by decide +kernel)) se_int) (se_and (se_var (by decide +kernel)) (se_var (by decide +kernel))) (se_or (se_var (by decide +kernel)) (se_var (by decide +kernel)))))
    sb_nil) sb_nil)
    (sb_cons (ss_ret (se_cmp (se_cmp (se_var (by decide +kernel)) (se_var (by decide +kernel))) (se_cmp (se_var (by decide +kernel)) se_int)))
    sb_nil))⟩

theorem body_law_rows (P0 : Params) : Body (hd.heap_1 P0) 266 ["way", "one", "other"] b_law_rows :=
  ⟨_, _, _, rfl, rfl, rfl, by kernel_rfl, by decide +kernel, fun vals h => by
    obtain ⟨v0, v1, v2, rfl⟩ := len3 h
    rfl, fun prog w cl h0 f n hC =>
    (sb_cons (ss_assigns (se_tup (.cons (se_idx (se_var (by decide +kernel)) se_int) (fun _ => rfl) (.cons (se_bin se_int (se_idx (se_var (by decide +kernel)) se_int)) (fun _ => rfl) (.cons (se_idx (se_var (by decide +kernel)) se_int) (fun _ => rfl) (.cons (se_bin se_int (se_idx (se_var (by decide +kernel)) se_int)) (fun _ => rfl) .nil))))) (by decide +kernel) (by decide +kernel) (fun _ _ => rfl) (swaps_tup (by decide +kernel)))
    (sb_cons (ss_iff (st_cmp (se_var (by decide +kernel)) se_int) (sb_cons (ss_ret (se_bin (se_var (by decide +kernel)) (se_var (by decide +kernel))))
    sb_nil) sb_nil)
    (sb_cons (ss_iff (st_cmp (se_var (by decide +kernel)) se_int) (sb_cons (ss_ret (se_bin (se_bin (se_var (by decide +kernel)) (se_var (by decide +kernel))) (se_bin (se_bin (se_var (by decide +kernel)) (se_var (by decide +kernel))) (se_bin (se_var (by decide +kernel)) (se_var (by decide +kernel))))))
    sb_nil) sb_nil)
    (sb_cons (ss_assign (se_bin (se_bin (se_var (by decide +kernel)) (se_var (by decide +kernel))) (se_bin (se_bin (se_var (by decide +kernel)) (se_var (by decide +kernel))) (se_bin (se_var (by decide +kernel)) (se_var (by decide +kernel))))) (by decide +kernel))
    (sb_cons (ss_ret (se_ite (st_cmp (se_var (by decide +kernel)) se_int) (se_var (by decide +kernel)) (se_bin (se_bin (se_var (by decide +kernel)) (se_var (by decide +kernel))) (se_var (by decide +kernel)))))
    sb_nil)))))⟩

theorem body_law_put (P0 : Params) : Body (hd.heap_1 P0) 273 ["feed", "circuit", "seen", "one", "other"] b_law_put :=
  ⟨_, _, _, rfl, rfl, rfl, by kernel_rfl, by decide +kernel, fun vals h => by
    obtain ⟨v0, v1, v2, v3, v4, rfl⟩ := len5 h
    rfl, fun prog w cl h0 f n hC =>
    (sb_cons (ss_assign (se_call f hC (by decide) (by decide +kernel) (by decide +kernel) (.cons (se_var (by decide +kernel)) (fun _ => rfl) (.cons se_int (fun _ => rfl) .nil))) (by decide +kernel))
    (sb_cons (ss_iff (st_cmp (se_var (by decide +kernel)) se_int) (sb_cons (ss_ret (se_tup (.cons (se_call f hC (by decide) (by decide +kernel) (by decide +kernel) (.cons (se_var (by decide +kernel)) (fun _ => rfl) (.cons (se_idx (se_var (by decide +kernel)) se_int) (fun _ => rfl) (.cons (se_idx (se_var (by decide +kernel)) se_int) (fun _ => rfl) (.cons (se_var (by decide +kernel)) (fun _ => rfl) .nil))))) (fun _ => rfl) (.cons (se_call f hC (by decide) (by decide +kernel) (by decide +kernel) (.cons (se_var (by decide +kernel)) (fun _ => rfl) (.cons (se_var (by decide +kernel)) (fun _ => rfl) (.cons (se_var (by decide +kernel)) (fun _ => rfl) .nil)))) (fun _ => rfl) (.cons (se_bin (se_idx (se_var (by decide +kernel)) se_int) (se_idx (se_var (by decide +kernel)) se_int)) (fun _ => rfl) .nil)))))
    sb_nil) sb_nil)
    (sb_cons (ss_swapped (se_tup (.cons (se_call f hC (by decide) (by decide +kernel) (by decide +kernel) (.cons (se_var (by decide +kernel)) (fun _ => rfl) (.cons se_int (fun _ => rfl) .nil))) (fun _ => rfl) (.cons (se_call f hC (by decide) (by decide +kernel) (by decide +kernel) (.cons (se_var (by decide +kernel)) (fun _ => rfl) (.cons se_int (fun _ => rfl) .nil))) (fun _ => rfl) .nil))) (by decide +kernel) (fun _ _ => rfl) (swaps_tup (by decide +kernel)))
    (sb_cons (ss_assign (se_meth f hC (se_var (by decide +kernel)) .nil (hP := meths_some)) (by decide +kernel))
    (sb_cons (ss_expr (se_lm (m := .append) (se_var (by decide +kernel)) (.cons (se_var (by decide +kernel)) (fun _ => rfl) .nil)))
    (sb_cons (ss_assign (se_meth f hC (se_var (by decide +kernel)) (.cons (se_var (by decide +kernel)) (fun _ => rfl) (.cons (se_call f hC (by decide) (by decide +kernel) (by decide +kernel) (.cons (se_var (by decide +kernel)) (fun _ => rfl) (.cons (se_idx (se_var (by decide +kernel)) se_int) (fun _ => rfl) (.cons (se_idx (se_var (by decide +kernel)) se_int) (fun _ => rfl) (.cons (se_var (by decide +kernel)) (fun _ => rfl) .nil))))) (fun _ => rfl) (.cons (se_call f hC (by decide) (by decide +kernel) (by decide +kernel) (.cons (se_var (by decide +kernel)) (fun _ => rfl) (.cons (se_idx (se_var (by decide +kernel)) se_int) (fun _ => rfl) (.cons (se_idx (se_var (by decide +kernel)) se_int) (fun _ => rfl) (.cons (se_var (by decide +kernel)) (fun _ => rfl) .nil))))) (fun _ => rfl) .nil))) (hP := meths_some)) (by decide +kernel))
    (sb_cons (ss_ret (se_tup (.cons (se_var (by decide +kernel)) (fun _ => rfl) (.cons (se_bin (se_call f hC (by decide) (by decide +kernel) (by decide +kernel) (.cons (se_var (by decide +kernel)) (fun _ => rfl) (.cons (se_var (by decide +kernel)) (fun _ => rfl) (.cons (se_var (by decide +kernel)) (fun _ => rfl) .nil)))) (se_call f hC (by decide) (by decide +kernel) (by decide +kernel) (.cons (se_var (by decide +kernel)) (fun _ => rfl) (.cons (se_var (by decide +kernel)) (fun _ => rfl) (.cons (se_var (by decide +kernel)) (fun _ => rfl) .nil))))) (fun _ => rfl) (.cons (se_bin (se_bin (se_idx (se_var (by decide +kernel)) se_int) (se_idx (se_var (by decide +kernel)) se_int)) se_int) (fun _ => rfl) .nil)))))
    sb_nil)))))))⟩

theorem body_law (P0 : Params) : Body (hd.heap_1 P0) 278 ["script"] b_law :=
  ⟨_, _, _, rfl, rfl, rfl, by kernel_rfl, by decide +kernel, fun vals h => by
    obtain ⟨v0, rfl⟩ := len1 h
    rfl, fun prog w cl h0 f n hC =>
    (sb_cons (ss_assign (se_dictS (by decide +kernel) (.cons (se_upto (se_var (by decide +kernel)) se_int) (fun _ => rfl) (.cons se_int (fun _ => rfl) (.cons (se_bi (b := .sum) f (by decide +kernel) (.cons (se_comp (se_upto (se_var (by decide +kernel)) se_int) (se_bin (se_bi (b := .abs) f (by decide +kernel) (.cons (se_var (by decide +kernel)) (fun _ => rfl) .nil)) se_int) (by decide +kernel)) (fun _ => rfl) .nil)) (fun _ => rfl) .nil))) rfl (by decide) (by decide)) (by decide +kernel))
    (sb_cons (ss_swapped (se_tup (.cons (se_new f hC (by decide) (by decide +kernel) .nil) (fun _ => rfl) (.cons (se_list .nil) (fun _ => rfl) .nil))) (by decide +kernel) (fun _ _ => rfl) (swaps_tup (by decide +kernel)))
    (sb_freeze (by decide +kernel) (sb_cons (ss_swapped (se_tup (.cons (se_bin se_int (se_call f hC (by decide) (by decide +kernel) (by decide +kernel) (.cons (se_var (by decide +kernel)) (fun _ => rfl) (.cons se_int (fun _ => rfl) .nil)))) (fun _ => rfl) (.cons (se_call f hC (by decide) (by decide +kernel) (by decide +kernel) (.cons (se_var (by decide +kernel)) (fun _ => rfl) (.cons se_int (fun _ => rfl) .nil))) (fun _ => rfl) .nil))) (by decide +kernel) (fun _ _ => rfl) (swaps_tup (by decide +kernel)))
    (sb_cons (ss_assign (se_ite (st_cmp (se_var (by decide +kernel)) se_int) se_int se_int) (by decide +kernel))
    (sb_cons (ss_assign (se_list (.cons (se_tup (.cons se_int (fun _ => rfl) (.cons se_int (fun _ => rfl) (.cons se_int (fun _ => rfl) .nil)))) (fun _ => rfl) (.cons (se_call f hC (by decide) (by decide +kernel) (by decide +kernel) (.cons (se_var (by decide +kernel)) (fun _ => rfl) (.cons (se_var (by decide +kernel)) (fun _ => rfl) (.cons (se_var (by decide +kernel)) (fun _ => rfl) (.cons (se_var (by decide +kernel)) (fun _ => rfl) .nil))))) (fun _ => rfl) .nil))) (by decide +kernel))
    (sb_cons (ss_assign (se_idx (se_var (by decide +kernel)) se_int) (by decide +kernel))
    (sb_cons (ss_for (se_bi (b := .range) f (by decide +kernel) (.cons se_int (fun _ => rfl) (.cons (se_var (by decide +kernel)) (fun _ => rfl) .nil))) (sb_cons (ss_iff (st_cmp (se_var (by decide +kernel)) (se_var (by decide +kernel))) (sb_cons (ss_expr (se_lm (m := .append) (se_var (by decide +kernel)) (.cons (se_meth f hC (se_var (by decide +kernel)) .nil (hP := meths_some)) (fun _ => rfl) .nil)))
    sb_nil) sb_nil)
    (sb_cons (ss_expr (se_lm (m := .append) (se_var (by decide +kernel)) (.cons (se_call f hC (by decide) (by decide +kernel) (by decide +kernel) (.cons (se_var (by decide +kernel)) (fun _ => rfl) (.cons (se_var (by decide +kernel)) (fun _ => rfl) (.cons (se_var (by decide +kernel)) (fun _ => rfl) (.cons (se_var (by decide +kernel)) (fun _ => rfl) .nil))))) (fun _ => rfl) .nil)))
    (sb_cons (ss_assign (se_call f hC (by decide) (by decide +kernel) (by decide +kernel) (.cons (se_var (by decide +kernel)) (fun _ => rfl) (.cons (se_var (by decide +kernel)) (fun _ => rfl) (.cons (se_var (by decide +kernel)) (fun _ => rfl) (.cons (se_var (by decide +kernel)) (fun _ => rfl) (.cons (se_idx (se_var (by decide +kernel)) (se_neg se_int)) (fun _ => rfl) .nil)))))) (by decide +kernel))
    (sb_cons (ss_expr (se_lm (m := .append) (se_var (by decide +kernel)) (.cons (se_var (by decide +kernel)) (fun _ => rfl) .nil)))
    sb_nil)))) (by decide +kernel))
    (sb_cons (ss_assign (se_new f hC (by decide) (by decide +kernel) (.cons (se_var (by decide +kernel)) (fun _ => rfl) (.cons (se_var (by decide +kernel)) (fun _ => rfl) .nil))) (by decide +kernel))
    (sb_freeze (by decide +kernel) (sb_cons (ss_for (se_bi (b := .range) f (by decide +kernel) (.cons se_int (fun _ => rfl) .nil)) (sb_cons (ss_assigns (se_ite (st_cmp (se_var (by decide +kernel)) se_int) (se_idx (se_var (by decide +kernel)) (se_neg se_int)) (se_idx (se_var (by decide +kernel)) (se_call f hC (by decide) (by decide +kernel) (by decide +kernel) (.cons (se_var (by decide +kernel)) (fun _ => rfl) (.cons (se_bi (b := .len) f (by decide +kernel) (.cons (se_var (by decide +kernel)) (fun _ => rfl) .nil)) (fun _ => rfl) .nil))))) (by decide +kernel) (by decide +kernel) (fun _ _ => rfl) (fun _ _ => rfl))
    (sb_cons (ss_assign (se_ite (st_cmp (se_call f hC (by decide) (by decide +kernel) (by decide +kernel) (.cons (se_var (by decide +kernel)) (fun _ => rfl) (.cons se_int (fun _ => rfl) .nil))) se_int) (se_flist (.cons (se_meth f hC (se_var (by decide +kernel)) (.cons (se_var (by decide +kernel)) (fun _ => rfl) .nil) (hP := meths_some)) (fun _ => rfl) (.cons (se_meth f hC (se_var (by decide +kernel)) (.cons (se_bin se_int (se_var (by decide +kernel))) (fun _ => rfl) .nil) (hP := meths_some)) (fun _ => rfl) .nil))) (se_rev (se_flist (.cons (se_meth f hC (se_var (by decide +kernel)) (.cons (se_bin se_int (se_var (by decide +kernel))) (fun _ => rfl) .nil) (hP := meths_some)) (fun _ => rfl) (.cons (se_meth f hC (se_var (by decide +kernel)) (.cons (se_var (by decide +kernel)) (fun _ => rfl) .nil) (hP := meths_some)) (fun _ => rfl) .nil))))) (by decide +kernel))
    (sb_cons (ss_iff (st_cmp (se_var (by decide +kernel)) (se_flist (.cons (se_bin (se_var (by decide +kernel)) (se_bin se_int (se_bin (se_bi (b := .len) f (by decide +kernel) (.cons (se_var (by decide +kernel)) (fun _ => rfl) .nil)) (se_var (by decide +kernel))))) (fun _ => rfl) (.cons (se_bin (se_bin (se_bin se_int (se_var (by decide +kernel))) (se_var (by decide +kernel))) (se_bin se_int (se_bin (se_bi (b := .len) f (by decide +kernel) (.cons (se_var (by decide +kernel)) (fun _ => rfl) .nil)) (se_var (by decide +kernel))))) (fun _ => rfl) .nil)))) (sb_cons (ss_ret se_bool)
    sb_nil) sb_nil)
    sb_nil))) (by decide +kernel))
    (sb_cons (ss_ret se_bool)
    sb_nil))))))))))))⟩

end Mine
end
section
set_option Elab.async false
set_option maxRecDepth 100000
set_option maxHeartbeats 2000000
set_option linter.unusedVariables false
namespace Mine
open PySem PySem.W PySem.Calls PyProof.Rows PySem.MeetsSeq

noncomputable def clA : String → Nat := fun C => if C = "Circuit" then 222 else 110

theorem boot_bi (b : Bi) : bootBuiltins (Str.ofString (biName b)) = some (biVal b) := by
  cases b <;> decide +kernel

theorem clsOkA (P0 : Params) : ∀ C ∈ clsNames, ClsOk (hd.heap_1 P0) (clA C) := by
  intro C hC
  unfold clsNames at hC
  rcases List.mem_cons.mp hC with rfl | hC
  · exact ⟨by kernel_rfl, by kernel_rfl, by kernel_rfl, by kernel_rfl, by kernel_rfl, fun a ha => by
      unfold attrNames at ha
      simp only [List.mem_cons, List.not_mem_nil, or_false] at ha
      rcases ha with rfl | rfl | rfl | rfl | rfl | rfl | rfl <;> kernel_rfl, by kernel_rfl⟩
  · rcases List.mem_cons.mp hC with rfl | hC
    · exact ⟨by kernel_rfl, by kernel_rfl, by kernel_rfl, by kernel_rfl, by kernel_rfl, fun a ha => by
        unfold attrNames at ha
        simp only [List.mem_cons, List.not_mem_nil, or_false] at ha
        rcases ha with rfl | rfl | rfl | rfl | rfl | rfl | rfl <;> kernel_rfl, by kernel_rfl⟩
    · cases hC


theorem fnOk_of {prog : Program} {w : World} {P0 : Params} {h0 : Heap} {cl : String → Nat} (f : Facts cl h0) (hX : (hd.heap_1 P0).In h0) (hfa : f.fa = fA) {name : String} {ps : List String} {body : Ss} {a : Nat} (B : Body (hd.heap_1 P0) a ps body) (ha : fA name = a) :
    ∃ o fd stmts, FnOk prog w cl h0 f.fa name ps body o fd stmts := by
  obtain ⟨o, fd, stmts, h1, h2, h3, h4, h5, h6, h7⟩ := B
  unfold statOk at h5
  simp only [Bool.and_eq_true, beq_iff_eq, Bool.not_eq_true', decide_eq_true_eq, List.isEmpty_iff, List.all_eq_true, Bool.or_eq_true, bne_iff_ne, ne_eq] at h5
  obtain ⟨⟨⟨⟨⟨⟨⟨⟨e1, e2⟩, e3⟩, e4⟩, e5⟩, e6⟩, e7⟩, e8⟩, e9⟩ := h5
  refine ⟨o, fd, stmts, by rw [hfa, ha]; exact hX _ _ h1, h2, h3, codeRec_of hX h4, e1, e2, e3, e4, e5, e6, e7, h6, by rw [List.all_eq_true]; exact e8, fun x hx hc => ?_, fun n hC => h7 prog w cl h0 f n hC⟩
  rcases e9 x hx with q | q
  · exact absurd hc q
  · exact q

noncomputable def lkT : List (String × (List String × Ss)) → String → Option (List String × Ss)
  | [], _ => none
  | q :: r, f => if f = q.1 then some q.2 else lkT r f
noncomputable def AllT (Q : String → List String × Ss → Prop) : List (String × (List String × Ss)) → Prop
  | [] => True
  | q :: r => Q q.1 q.2 ∧ AllT Q r
theorem lkT_all {Q : String → List String × Ss → Prop} {f : String} {v : List String × Ss} : ∀ {t}, AllT Q t → lkT t f = some v → Q f v
  | [], _, h => nomatch h
  | q :: r, ⟨h1, h2⟩, h => by
    unfold lkT at h
    by_cases e : f = q.1
    · rw [if_pos e] at h; cases h; subst e; exact h1
    · rw [if_neg e] at h; exact lkT_all h2 h
theorem Body.at {K : Frag} {f : String} {a : Nat} {ps : List String} {b : Ss} {v : List String × Ss} (B : Body K a ps b) (e : fA f = a) (h : (ps, b) = v) : Body K (fA f) v.1 v.2 := by subst h; rw [e]; exact B
noncomputable def tblP : List (String × (List String × Ss)) := [("Counter.__init__", (["self", "circuit", "inputs"], b_Counter_init)), ("Counter.below", (["self", "gate"], b_Counter_below)), ("Counter.support", (["self", "gate"], b_Counter_support)), ("Counter.gathered", (["self", "here"], b_Counter_gathered)), ("Counter.turned", (["self", "gate", "table"], b_Counter_turned)), ("Counter.settled", (["self", "gate", "x", "value"], b_Counter_settled)), ("Counter.groups", (["self", "parts"], b_Counter_groups)), ("Counter.pick", (["self", "parts"], b_Counter_pick)), ("Counter.plan", (["self", "gate"], b_Counter_plan)), ("Counter.is_ready", (["self", "gate"], b_Counter_is_ready)), ("Counter.own", (["self", "gate"], b_Counter_own)), ("Counter.combined", (["self", "gate"], b_Counter_combined)), ("Counter.count", (["self", "gate"], b_Counter_count)), ("Circuit.__init__", (["self"], b_Circuit_init)), ("Circuit.kind", (["self", "g"], b_Circuit_kind)), ("Circuit.parts", (["self", "g"], b_Circuit_parts)), ("Circuit.new_gate", (["self", "kind", "parts"], b_Circuit_new_gate)), ("Circuit.new_input", (["self"], b_Circuit_new_input)), ("Circuit.all_of", (["self", "gates"], b_Circuit_all_of)), ("Circuit.both", (["self", "a", "b"], b_Circuit_both)), ("Circuit.either", (["self", "a", "b"], b_Circuit_either)), ("Circuit.implies", (["self", "a", "b"], b_Circuit_implies)), ("Circuit.iff", (["self", "a", "b"], b_Circuit_iff)), ("Circuit.unlike", (["self", "a", "b"], b_Circuit_unlike)), ("Circuit.choose", (["self", "c", "a", "b"], b_Circuit_choose)), ("_law_draw", (["feed", "many"], b_law_draw)), ("_law_many", (["table"], b_law_many)), ("_law_block", (["feed", "circuit", "seen", "most"], b_law_block)), ("_law_joined", (["circuit", "one", "other", "way"], b_law_joined)), ("_law_way", (["way", "one", "other"], b_law_way)), ("_law_rows", (["way", "one", "other"], b_law_rows)), ("_law_put", (["feed", "circuit", "seen", "one", "other"], b_law_put)), ("law", (["script"], b_law))]
theorem P_tbl (f : String) : Mine.P f = lkT tblP f := rfl
theorem allBodies (P0 : Params) {f : String} {v : List String × Ss} (h : Mine.P f = some v) : Body (hd.heap_1 P0) (fA f) v.1 v.2 :=
  lkT_all (Q := fun f v => Body (hd.heap_1 P0) (fA f) v.1 v.2) (t := tblP) ⟨(body_Counter_init P0).at (by decide +kernel) rfl, (body_Counter_below P0).at (by decide +kernel) rfl, (body_Counter_support P0).at (by decide +kernel) rfl, (body_Counter_gathered P0).at (by decide +kernel) rfl, (body_Counter_turned P0).at (by decide +kernel) rfl, (body_Counter_settled P0).at (by decide +kernel) rfl, (body_Counter_groups P0).at (by decide +kernel) rfl, (body_Counter_pick P0).at (by decide +kernel) rfl, (body_Counter_plan P0).at (by decide +kernel) rfl, (body_Counter_is_ready P0).at (by decide +kernel) rfl, (body_Counter_own P0).at (by decide +kernel) rfl, (body_Counter_combined P0).at (by decide +kernel) rfl, (body_Counter_count P0).at (by decide +kernel) rfl, (body_Circuit_init P0).at (by decide +kernel) rfl, (body_Circuit_kind P0).at (by decide +kernel) rfl, (body_Circuit_parts P0).at (by decide +kernel) rfl, (body_Circuit_new_gate P0).at (by decide +kernel) rfl, (body_Circuit_new_input P0).at (by decide +kernel) rfl, (body_Circuit_all_of P0).at (by decide +kernel) rfl, (body_Circuit_both P0).at (by decide +kernel) rfl, (body_Circuit_either P0).at (by decide +kernel) rfl, (body_Circuit_implies P0).at (by decide +kernel) rfl, (body_Circuit_iff P0).at (by decide +kernel) rfl, (body_Circuit_unlike P0).at (by decide +kernel) rfl, (body_Circuit_choose P0).at (by decide +kernel) rfl, (body_law_draw P0).at (by decide +kernel) rfl, (body_law_many P0).at (by decide +kernel) rfl, (body_law_block P0).at (by decide +kernel) rfl, (body_law_joined P0).at (by decide +kernel) rfl, (body_law_way P0).at (by decide +kernel) rfl, (body_law_rows P0).at (by decide +kernel) rfl, (body_law_put P0).at (by decide +kernel) rfl, (body_law P0).at (by decide +kernel) rfl, trivial⟩ ((P_tbl f).symm.trans h)

noncomputable def factsA {P0 : Params} {h0 : Heap} {mg mb : Str → Option Value} (X : (hd.heap_1 P0).In h0) (hg : h0.Ns mainGlobals mg) (hb : h0.Ns builtinsNs mb) (nl : h0.NoLimit) (bb : ∀ x : Str, x ≠ "__name__" → mb x = bootBuiltins x) : Facts clA h0 where
  F := hd.heap_1 P0
  inF := X
  cls := clsOkA P0
  mg := mg
  mb := mb
  hg := hg
  hb := hb
  nolim := nl
  fa := fA
  bis b := by
    refine ⟨mg_none_of X hg ?_, (bb _ ?_).trans (boot_bi b)⟩
    · cases b <;> kernel_rfl
    · cases b <;> decide +kernel
  gfn f hf := by
    refine mg_of X hg ?_
    unfold topNames at hf
    simp only [List.mem_cons, List.not_mem_nil, or_false] at hf
    rcases hf with rfl | rfl | rfl | rfl | rfl | rfl | rfl <;> kernel_rfl
  gcl C hC := by
    refine mg_of X hg ?_
    unfold clsNames at hC
    simp only [List.mem_cons, List.not_mem_nil, or_false] at hC
    rcases hC with rfl | rfl <;> kernel_rfl
  meth q hq := by
    unfold methNames at hq
    simp only [List.mem_cons, List.not_mem_nil, or_false] at hq
    rcases hq with rfl | rfl | rfl | rfl | rfl | rfl | rfl | rfl | rfl | rfl | rfl | rfl | rfl | rfl | rfl | rfl | rfl | rfl | rfl | rfl | rfl | rfl | rfl <;> exact ⟨by kernel_rfl, by kernel_rfl⟩
  init C hC := by
    unfold clsNames at hC
    simp only [List.mem_cons, List.not_mem_nil, or_false] at hC
    rcases hC with rfl | rfl <;> exact ⟨by kernel_rfl, by kernel_rfl⟩
  isf f hf := by
    obtain ⟨v, hv⟩ := Option.isSome_iff_exists.mp hf
    obtain ⟨o, fd, _, h1, h2, _⟩ := allBodies P0 hv
    exact ⟨o, fd, X _ _ h1, h2⟩

theorem allFns {prog : Program} {w : World} {P0 : Params} {h0 : Heap} {cl : String → Nat} (f : Facts cl h0) (hX : (hd.heap_1 P0).In h0) (hfa : f.fa = fA) : ∀ name ps body, Mine.P name = some (ps, body) → ∃ o fd stmts, FnOk prog w cl h0 f.fa name ps body o fd stmts := by
  intro name ps body hP
  exact fnOk_of f hX hfa (allBodies P0 hP) rfl

noncomputable def LawOk : Prop := ∀ is : List Int, is.length ≤ 63 → Call Mine.P 13 "law" [.fl (is.map .int)] (fun _ => none) (fun v _ => v = .bool true)

theorem link (hlaw : LawOk) {prog : Program} {w : World} {s₁ : Shared} {h₁ : Heap} {mg mb : Str → Option Value} {fa : Addr} {cd : Value} {a t : Nat} {vs : List Value} {is : List Int} (X : (hd.heap_1 w.params).In s₁.heap) (hg : s₁.heap.Ns mainGlobals mg)
    (hb : s₁.heap.Ns builtinsNs mb) (nl : s₁.heap.NoLimit) (bb : ∀ x : Str, x ≠ "__name__" → mb x = bootBuiltins x) (low : sysModules < s₁.heap.objs.size)
    (hget : s₁.heap.get? a = some { cls := .type "list", data := .seq vs.toArray }) (hI : IntsAre vs is) (hlen : is.length ≤ 63)
    (F : Fr s₁.heap s₁.heap.objs.size h₁ (fun x => List.lookup x [(Str.ofString "script", Value.ref a)].reverse)) {Q : Flow → Shared → Prop} {E : Value → Shared → Prop}
    (k : ∀ s', (∀ b o, s₁.heap.get? b = some o → s'.heap.get? b = some o) → s'.os = s₁.os → s'.gens = s₁.gens → Q (.ret (.bool true)) s') :
    ∀ o fd stmts, (hd.heap_1 w.params).lookup 278 = some o → o.data = .func fd → fd.body = .stmts stmts → (∀ x ∈ fd.scope.names, x.2 ≠ .cell) →
      wpAny (model prog w) (callerA.deeper (envOf "law" fd.scope s₁.heap.objs.size fa cd)) (execs stmts (envOf "law" fd.scope s₁.heap.objs.size fa cd)) Q E { s₁ with heap := h₁, toks := t } := by
  intro o fd stmts e1 e2 e3 hnc
  obtain ⟨o', fd', stmts', h1, h2, h3, h4, h5, h6, h7⟩ := body_law w.params
  rw [e1] at h1; cases h1
  rw [e2] at h2; cases h2
  rw [e3] at h3; cases h3
  let f := factsA X hg hb nl bb
  have hC := callOk_all (prog := prog) (w := w) f (allFns f X rfl) 12
  have sb := h7 prog w clA s₁.heap f 12 hC
  obtain ⟨ps, body, hP, hl, hw⟩ := hlaw is hlen
  have hPl : Mine.P "law" = some (["script"], b_law) := by rfl
  rw [hPl] at hP; cases hP
  unfold statOk at h5
  simp only [Bool.and_eq_true, beq_iff_eq, Bool.not_eq_true', decide_eq_true_eq, List.isEmpty_iff, List.all_eq_true, Bool.or_eq_true, bne_iff_ne, ne_eq] at h5
  obtain ⟨⟨⟨⟨⟨⟨⟨⟨x1, x2⟩, x3⟩, x4⟩, x5⟩, x6⟩, x7⟩, x8⟩, x9⟩ := h5
  have hL : s₁.heap.get? s₁.heap.objs.size = none := none_of_size (Nat.le_refl _)
  have hm : a ≠ mainGlobals := fun q => by
    obtain ⟨o, es, ep, ho, hd, _⟩ := hg
    rw [← q, hget] at ho; cases ho; cases hd
  let P0 : Tab := fun b => if b = a then none else s₁.heap.get? b
  let G0 : Tab := fun b => if b = a then s₁.heap.get? a else none
  have rel : RelH prog w clA P0 G0 (fun b => b = s₁.heap.objs.size) (fun _ => none) h₁ := by
    refine ⟨fun b o e => ?_, fun b o e => ?_, (fun b x e => nomatch e), fun b e => ?_, fun b o e => ?_, fun o e => ?_, (fun x e => nomatch e), ?_⟩
    · dsimp only [P0] at e
      split at e
      · cases e
      · exact F.keep _ _ e
    · dsimp only [G0] at e
      split at e
      · rename_i q; subst q; exact F.keep _ _ e
      · cases e
    · subst e
      obtain ⟨o, _, _, ho, _⟩ := F.ns
      refine ⟨⟨o, ho⟩, ?_, ?_⟩
      · dsimp only [P0]; split
        · rfl
        · exact hL
      · dsimp only [G0]; split
        · rename_i q; rw [← q]; exact hL
        · rfl
    · dsimp only [P0] at e
      split at e
      · cases e
      · rename_i q; dsimp only [G0]; rw [if_neg q]
    · dsimp only [G0] at e
      split at e
      · rw [hget] at e; cases e; intro h; injection h with h; exact absurd h (by decide)
      · cases e
    · obtain ⟨o, es, ep, ho, _⟩ := hg
      exact ⟨mainGlobals, o, by decide, by dsimp only [P0]; rw [if_neg (Ne.symm hm)]; exact ho⟩
  have hk : ∀ x, (envOf "law" fd.scope s₁.heap.objs.size fa cd).kindOf x = fd.scope.names.lookup x := fun x => rfl
  have hrs : RV prog w clA G0 (.ref a) (.fl (is.map .int)) := .fl (items := vs.toArray) (n := 0) (by dsimp only [G0]; rw [if_pos rfl]; exact hget) (RVs.ofInts hI)
  have hsc : fd.scope.names.lookup (Str.ofString "script") = some .local := by
    have := x8 "script" List.mem_cons_self
    unfold stoOk at this
    simp only [Bool.or_eq_true, beq_iff_eq] at this
    rcases this with q | q
    · exact q
    · exact absurd rfl (hnc _ (lookup_mem q))
  have c : Ctx prog w clA s₁.heap 12 fd.scope (envOf "law" fd.scope s₁.heap.objs.size fa cd) (callerA.deeper (envOf "law" fd.scope s₁.heap.objs.size fa cd)) P0 G0 (fun b => b = s₁.heap.objs.size) (setAll (fun _ => none) ["script"] [.fl (is.map .int)]) (fun _ => none)
      { s₁ with heap := h₁, toks := t } := by
    refine ⟨rfl, ⟨rfl, by show callerA.depth + 1 + 3 * 12 + 20 < 1000; decide, by show callerA.units + 3 + 20 * 12 + 200 < 9900; decide⟩, fun b o e => ?_, rel, ⟨x6, rfl, rfl, ⟨_, F.ns⟩, rfl, fun x hx => ?_⟩, fun x v e hv => ?_⟩
    · by_cases q : b = a
      · subst q; exact .inr (by dsimp only [G0]; rw [if_pos rfl]; exact e)
      · exact .inl (by dsimp only [P0]; rw [if_neg q]; exact e)
    · rw [hk] at hx; exact absurd rfl (hnc _ (lookup_mem hx))
    · have hx := setAll_in e
      rw [List.mem_singleton] at hx
      subst hx
      have e' : (some (AV.fl (is.map .int))) = some v := by
        rw [← e]; rfl
      cases e'
      exact ⟨.ref a, .inl ⟨hsc, _, F.ns, by simp⟩, hrs⟩
  have S : EnvS (envOf "law" fd.scope s₁.heap.objs.size fa cd) := ⟨(fun x y c (a : List.lookup x ([] : List (Str × Addr)) = some c) => by cases a), (fun x c (a : List.lookup x ([] : List (Str × Addr)) = some c) => by cases a)⟩
  have EF : EnvF (envOf "law" fd.scope s₁.heap.objs.size fa cd) (fun b => b = s₁.heap.objs.size) := fun x hx => by
    rw [hk] at hx; exact absurd rfl (hnc _ (lookup_mem hx))
  refine sb _ _ P0 G0 _ _ _ _ _ _ _ c S EF hw fun fl0 fl l2 hp2 G2 s2 hk2 rf ex sm c2 => ?_
  obtain ⟨hp3, _, hv⟩ := hk2
  cases rf with
  | next => cases hv
  | cont => cases hv
  | ret r =>
    have hv' : _ = AV.bool true := hv
    subst hv'
    obtain rfl := r.bool_inv
    obtain ⟨h2, t2, e⟩ := sm
    refine k s2 (fun b o eb => ?_) (by rw [e]) (by rw [e])
    by_cases q : b = a
    · subst q; exact c2.rel.keepG _ _ (ex _ _ (by dsimp only [G0]; rw [if_pos rfl]; exact eb))
    · exact c2.rel.keepP _ _ (by dsimp only [P0]; rw [if_neg q]; exact eb)
end Mine
end
section
set_option Elab.async false
set_option maxRecDepth 100000
set_option linter.unusedVariables false
namespace Mine

theorem call_of {f : String} {ps : List String} {body : Ss} {args : List AV} {hp : HP} {K : AV → HP → Prop} {n : Nat} (hP : P f = some (ps, body)) (hl : ps.length = args.length)
    (h : wpB (Call P n) body (setAll (fun _ => none) ps args) hp fun fl _ hp1 => ∃ hp2, HP.Sub hp2 hp1 ∧ K (retOf fl) hp2) : Call P (n + 1) f args hp K := ⟨ps, body, hP, hl, h⟩

theorem wpWhile_ind {test : Loc → HP → (Bool → HP → Prop) → Prop} {body : Loc → HP → (Fl → Loc → HP → Prop) → Prop} {K : Fl → Loc → HP → Prop} (Inv : Nat → Loc → HP → Prop)
    (step : ∀ (P : Loc → HP → Prop) m l h, (∀ m' l h, m' < m → Inv m' l h → P l h) → Inv m l h → test l h fun b h1 => if b then body l h1 fun f l2 h2 => match f with
        | .ret v => K (.ret v) l2 h2
        | _ => ∃ h3, HP.Sub h3 h2 ∧ P l2 h3 else K .next l h1) {m : Nat} {l : Loc} {h : HP} (hi : Inv m l h) : wpWhile test body l h K := by
  intro P hP
  induction m using Nat.strongRecOn generalizing l h with
  | ind m ih => exact hP l h (step P m l h (fun m' l h lt i => ih m' lt i) hi)

theorem wpFor_ind {t : Tgt} {body : Loc → HP → (Fl → Loc → HP → Prop) → Prop} {K : Fl → Loc → HP → Prop} (Inv : List AV → Loc → HP → Prop) (done : ∀ l h, Inv [] l h → K .next l h)
    (step : ∀ (P : Loc → HP → Prop) x xs l h, (∀ l h, Inv xs l h → P l h) → Inv (x :: xs) l h → ∃ l', bindT t x l = some l' ∧ body l' h fun f l2 h2 => match f with
        | .ret v => K (.ret v) l2 h2
        | _ => ∃ h3, HP.Sub h3 h2 ∧ P l2 h3) : ∀ {xs : List AV} {l : Loc} {h : HP}, Inv xs l h → wpFor t body xs l h K
  | [], l, h, i => done l h i
  | x :: xs, l, h, i => step (fun l h => wpFor t body xs l h K) x xs l h (fun l h j => wpFor_ind Inv done step j) i

theorem HP.Sub.refl (h : HP) : HP.Sub h h := fun _ _ e => e
theorem HP.Sub.set {h : HP} {a : Nat} {o : AObj} (e : h a = none) : HP.Sub h (h.set a o) := fun b x q => by
  unfold HP.set; by_cases hb : b = a
  · subst hb; rw [e] at q; cases q
  · rw [if_neg hb]; exact q

/-- a circuit's state, and the three objects that hold it -/
structure Circ where
  gs : List (String × List Int)
  known : List (List Int × Int)
structure CI where
  a1 : Nat
  a2 : Nat
  a3 : Nat
  h12 : a1 ≠ a2
  h13 : a1 ≠ a3
  h23 : a2 ≠ a3
noncomputable def cAV (i : CI) : AV := .inst "Circuit" [("kinds", .ref i.a1), ("parts_now", .ref i.a2), ("known", .ref i.a3)]
noncomputable def oKinds (C : Circ) : AObj := .list (C.gs.map fun g => .str g.1)
noncomputable def oParts (C : Circ) : AObj := .list (C.gs.map fun g => .tup (g.2.map .int))
noncomputable def oKnown (C : Circ) : AObj := .dT (C.known.map fun kv => (kv.1, .int kv.2))
noncomputable def putC (i : CI) (C : Circ) (hp : HP) : HP := ((hp.set i.a1 (oKinds C)).set i.a2 (oParts C)).set i.a3 (oKnown C)

@[simp] theorem HP.set_self {h : HP} {a : Nat} {o : AObj} : h.set a o a = some o := by simp [HP.set]
theorem HP.set_ne {h : HP} {a b : Nat} {o : AObj} (e : b ≠ a) : h.set a o b = h b := by simp [HP.set, e]
theorem putC1 {i : CI} {C : Circ} {hp : HP} : putC i C hp i.a1 = some (oKinds C) := by
  unfold putC; rw [HP.set_ne i.h13, HP.set_ne i.h12, HP.set_self]
theorem putC2 {i : CI} {C : Circ} {hp : HP} : putC i C hp i.a2 = some (oParts C) := by
  unfold putC; rw [HP.set_ne i.h23, HP.set_self]
theorem putC3 {i : CI} {C : Circ} {hp : HP} : putC i C hp i.a3 = some (oKnown C) := by
  unfold putC; rw [HP.set_self]

theorem seqGet_nat {xs : List AV} {i : Nat} {x : AV} (h : xs[i]? = some x) : seqGet xs (i : Int) = some x := by
  unfold seqGet; rw [if_pos (by exact Int.natCast_nonneg _)]; simpa using h

theorem kind_ok {i : CI} {C : Circ} {hp : HP} {g : Int} {q : String × List Int} {K : AV → HP → Prop} {n : Nat} (hg : C.gs[g.natAbs]? = some q) (hs : small g.natAbs) (hK : K (.str q.1) (putC i C hp)) :
    Call P (n + 1) "Circuit.kind" [cAV i, .int g] (putC i C hp) K := by
  refine call_of rfl rfl ?_
  have e : idxGet (.ref i.a1) (.int g.natAbs) (putC i C hp) = some (.str q.1) := by
    show (match putC i C hp i.a1 with | some (.list xs) => seqGet xs _ | some (.dI kvs) => aGet kvs _ | _ => none) = _
    rw [putC1]; exact seqGet_nat (by rw [List.getElem?_map, hg]; rfl)
  exact ⟨_, rfl, _, rfl, _, rfl, _, e, fun k e => by cases e; exact hs, _, HP.Sub.refl _, hK⟩
end Mine
end
section
set_option Elab.async false
set_option maxRecDepth 100000
set_option linter.unusedVariables false
set_option linter.unusedSimpArgs false
namespace Mine

noncomputable def srt (l : List Int) : List Int := l.mergeSort fun a b => decide (a ≤ b)
theorem srt_perm (l : List Int) : (srt l).Perm l := List.mergeSort_perm l _
theorem srt_sorted (l : List Int) : (srt l).Pairwise (· ≤ ·) := by
  have := List.pairwise_mergeSort (le := fun a b : Int => decide (a ≤ b)) (fun a b c h1 h2 => by simp at *; exact Int.le_trans h1 h2) (fun a b => by simp; omega) l
  exact this.imp fun h => by simpa using h
theorem srt_eq {l out : List Int} (h1 : out.Perm l) (h2 : out.Pairwise (· ≤ ·)) : out = srt l :=
  List.Perm.eq_of_pairwise (fun a b _ _ h3 h4 => Int.le_antisymm h3 h4) h2 (srt_sorted l) (h1.trans (srt_perm l).symm)

theorem set_comm {h : HP} {a b : Nat} {o o' : AObj} (e : a ≠ b) : (h.set a o).set b o' = (h.set b o').set a o := by
  funext c; unfold HP.set
  by_cases q : c = b
  · subst q; simp [Ne.symm e]
  · simp [q]
theorem set_set {h : HP} {a : Nat} {o o' : AObj} : (h.set a o).set a o' = h.set a o' := by
  funext c; unfold HP.set
  by_cases q : c = a
  · simp [q]
  · simp [q]
theorem putC_comm {i : CI} {C : Circ} {hp : HP} {a : Nat} {o : AObj} (h1 : a ≠ i.a1) (h2 : a ≠ i.a2) (h3 : a ≠ i.a3) : (putC i C hp).set a o = putC i C (hp.set a o) := by
  unfold putC
  rw [set_comm (Ne.symm h3), set_comm (Ne.symm h2), set_comm (Ne.symm h1)]
theorem putC_fresh {i : CI} {C : Circ} {hp : HP} {a : Nat} (h : putC i C hp a = none) : a ≠ i.a1 ∧ a ≠ i.a2 ∧ a ≠ i.a3 ∧ hp a = none := by
  have h1 : a ≠ i.a1 := fun e => by subst e; rw [putC1] at h; cases h
  have h2 : a ≠ i.a2 := fun e => by subst e; rw [putC2] at h; cases h
  have h3 : a ≠ i.a3 := fun e => by subst e; rw [putC3] at h; cases h
  refine ⟨h1, h2, h3, ?_⟩
  unfold putC at h
  rwa [HP.set_ne h3, HP.set_ne h2, HP.set_ne h1] at h
theorem putC_sub {i : CI} {C : Circ} {h h' : HP} (k : HP.Sub h h') : HP.Sub (putC i C h) (putC i C h') := fun b o e => by
  unfold putC HP.set at *
  by_cases h3 : b = i.a3
  · simpa [h3] using e
  · by_cases h2 : b = i.a2
    · simpa [h2, h3] using e
    · by_cases h1 : b = i.a1
      · simpa [h1, h2, h3] using e
      · simp only [h1, h2, h3, if_false] at e ⊢; exact k _ _ e
theorem putC_gs {i : CI} {C : Circ} {hp : HP} {gs : List (String × List Int)} : ((putC i C hp).set i.a1 (oKinds { C with gs := gs })).set i.a2 (oParts { C with gs := gs }) = putC i { C with gs := gs } hp := by
  show (((((hp.set i.a1 _).set i.a2 _).set i.a3 _).set i.a1 _).set i.a2 _) = _
  rw [set_comm (Ne.symm i.h13), set_comm (Ne.symm i.h12), set_set, set_comm (Ne.symm i.h23), set_set]
  rfl
theorem putC_known {i : CI} {C : Circ} {hp : HP} {kn : List (List Int × Int)} : (putC i C hp).set i.a3 (oKnown { C with known := kn }) = putC i { C with known := kn } hp := by
  unfold putC; rw [set_set]; rfl

noncomputable def trues (l : List Int) : List (Int × AV) := l.map fun k => (k, .bool true)
theorem keys_trues (l : List Int) : (trues l).map (·.1) = l := by
  unfold trues; rw [List.map_map]; exact List.map_id' l
theorem aPut_trues {found : List Int} {g : Int} : aPut (trues found) g (.bool true) = trues (if g ∈ found then found else found ++ [g]) := by
  unfold aPut trues
  by_cases h : g ∈ found
  · rw [if_pos h, if_pos]
    · rw [List.map_map]
      apply List.map_congr_left
      intro a ha
      simp
    · rw [List.any_eq_true]; exact ⟨(g, .bool true), List.mem_map_of_mem h, by simp⟩
  · rw [if_neg h, if_neg]
    · simp
    · rw [List.any_eq_true]
      rintro ⟨x, hx, e⟩
      obtain ⟨y, hy, rfl⟩ := List.mem_map.mp hx
      simp at e; subst e; exact h hy
theorem trues_len (l : List Int) : (trues l).length = l.length := by simp [trues]
theorem intsOf_map (l : List Int) : intsOf (l.map .int) = some l := by
  induction l with
  | nil => rfl
  | cons a l ih => simp [intsOf, ih]

theorem cA_kinds {i : CI} {hp : HP} : attrGet (cAV i) "kinds" hp = some (.ref i.a1) := rfl
theorem cA_parts {i : CI} {hp : HP} : attrGet (cAV i) "parts_now" hp = some (.ref i.a2) := rfl
theorem cA_known {i : CI} {hp : HP} : attrGet (cAV i) "known" hp = some (.ref i.a3) := rfl
theorem seqGet_map {l : List Int} {k : Nat} {x : Int} (h : l[k]? = some x) : seqGet (l.map .int) (k : Int) = some (.int x) := seqGet_nat (by simp [h])
end Mine
end
section
set_option Elab.async false
set_option maxRecDepth 100000
set_option linter.unusedVariables false
set_option linter.unusedSimpArgs false
namespace Mine

structure Tabs where
  kn : List (Int × Int)
  pl : List (Int × (String × List Int))
  su : List (Int × List Int)
structure SI where
  i : CI
  b1 : Nat
  b2 : Nat
  b3 : Nat
  ins : List Int
  h12 : b1 ≠ b2
  h13 : b1 ≠ b3
  h23 : b2 ≠ b3
  d1 : b1 ≠ i.a1 ∧ b1 ≠ i.a2 ∧ b1 ≠ i.a3
  d2 : b2 ≠ i.a1 ∧ b2 ≠ i.a2 ∧ b2 ≠ i.a3
  d3 : b3 ≠ i.a1 ∧ b3 ≠ i.a2 ∧ b3 ≠ i.a3
noncomputable def sAV (j : SI) : AV := .inst "Counter" [("circuit", cAV j.i), ("inputs", .tup (j.ins.map .int)), ("known", .ref j.b1), ("plans", .ref j.b2), ("supports", .ref j.b3)]
noncomputable def knL (l : List (Int × Int)) : List (Int × AV) := l.map fun kv => (kv.1, .int kv.2)
noncomputable def plV (v : String × List Int) : AV := .tup [.str v.1, .fl (v.2.map .int)]
noncomputable def plL (l : List (Int × (String × List Int))) : List (Int × AV) := l.map fun kv => (kv.1, plV kv.2)
noncomputable def suL (l : List (Int × List Int)) : List (Int × AV) := l.map fun kv => (kv.1, .fd kv.2)
noncomputable def putT (j : SI) (S : Tabs) (hp : HP) : HP := ((hp.set j.b1 (.dI (knL S.kn))).set j.b2 (.dI (plL S.pl))).set j.b3 (.dI (suL S.su))
noncomputable def putS (j : SI) (C : Circ) (S : Tabs) (hp : HP) : HP := putC j.i C (putT j S hp)

theorem putC_ne {i : CI} {C : Circ} {hp : HP} {a : Nat} (h : a ≠ i.a1 ∧ a ≠ i.a2 ∧ a ≠ i.a3) : putC i C hp a = hp a := by
  unfold putC; rw [HP.set_ne h.2.2, HP.set_ne h.2.1, HP.set_ne h.1]

section
variable {j : SI} {C C' : Circ} {S : Tabs} {hp hp' : HP} {a : Nat} {o : AObj}
theorem putS1 : putS j C S hp j.b1 = some (.dI (knL S.kn)) := by
  unfold putS putT; rw [putC_ne j.d1, HP.set_ne j.h13, HP.set_ne j.h12, HP.set_self]
theorem putS2 : putS j C S hp j.b2 = some (.dI (plL S.pl)) := by
  unfold putS putT; rw [putC_ne j.d2, HP.set_ne j.h23, HP.set_self]
theorem putS3 : putS j C S hp j.b3 = some (.dI (suL S.su)) := by
  unfold putS putT; rw [putC_ne j.d3, HP.set_self]
theorem putS_set1 {l : List (Int × Int)} : (putS j C S hp).set j.b1 (.dI (knL l)) = putS j C { S with kn := l } hp := by
  unfold putS; rw [putC_comm j.d1.1 j.d1.2.1 j.d1.2.2]
  unfold putT
  rw [set_comm (Ne.symm j.h13), set_comm (Ne.symm j.h12), set_set]
theorem putS_set2 {l : List (Int × (String × List Int))} : (putS j C S hp).set j.b2 (.dI (plL l)) = putS j C { S with pl := l } hp := by
  unfold putS; rw [putC_comm j.d2.1 j.d2.2.1 j.d2.2.2]
  unfold putT
  rw [set_comm (Ne.symm j.h23), set_set]
theorem putS_set3 {l : List (Int × List Int)} : (putS j C S hp).set j.b3 (.dI (suL l)) = putS j C { S with su := l } hp := by
  unfold putS; rw [putC_comm j.d3.1 j.d3.2.1 j.d3.2.2]
  unfold putT
  rw [set_set]

/-- an address that the state leaves free -/
structure Free (j : SI) (a : Nat) : Prop where
  n1 : a ≠ j.i.a1
  n2 : a ≠ j.i.a2
  n3 : a ≠ j.i.a3
  m1 : a ≠ j.b1
  m2 : a ≠ j.b2
  m3 : a ≠ j.b3
theorem putS_fresh (h : putS j C S hp a = none) : Free j a ∧ hp a = none := by
  obtain ⟨h1, h2, h3, h⟩ := putC_fresh h
  have k1 : a ≠ j.b1 := fun e => by subst e; have := putS1 (j := j) (C := C) (S := S) (hp := hp); unfold putS at this; rw [putC_ne j.d1] at this; rw [h] at this; cases this
  have k2 : a ≠ j.b2 := fun e => by subst e; have := putS2 (j := j) (C := C) (S := S) (hp := hp); unfold putS at this; rw [putC_ne j.d2] at this; rw [h] at this; cases this
  have k3 : a ≠ j.b3 := fun e => by subst e; have := putS3 (j := j) (C := C) (S := S) (hp := hp); unfold putS at this; rw [putC_ne j.d3] at this; rw [h] at this; cases this
  refine ⟨⟨h1, h2, h3, k1, k2, k3⟩, ?_⟩
  unfold putT at h
  rwa [HP.set_ne k3, HP.set_ne k2, HP.set_ne k1] at h
theorem putS_comm (f : Free j a) : (putS j C S hp).set a o = putS j C S (hp.set a o) := by
  unfold putS
  rw [putC_comm f.n1 f.n2 f.n3]
  unfold putT
  rw [set_comm (Ne.symm f.m3), set_comm (Ne.symm f.m2), set_comm (Ne.symm f.m1)]
theorem putS_get (f : Free j a) : putS j C S hp a = hp a := by
  unfold putS
  rw [putC_ne ⟨f.n1, f.n2, f.n3⟩]
  unfold putT
  rw [HP.set_ne f.m3, HP.set_ne f.m2, HP.set_ne f.m1]
theorem HP.Sub.mset {h h' : HP} (k : HP.Sub h h') {a : Nat} {o : AObj} : HP.Sub (h.set a o) (h'.set a o) := fun b x q => by
  unfold HP.set at *
  by_cases hb : b = a
  · simpa [hb] using q
  · simp only [hb, if_false] at q ⊢; exact k _ _ q
theorem putS_sub (k : HP.Sub hp hp') : HP.Sub (putS j C S hp) (putS j C S hp') := putC_sub (((k.mset).mset).mset)
theorem putS_new (h : hp a = none) : HP.Sub (putS j C S hp) (putS j C S (hp.set a o)) := putS_sub (HP.Sub.set h)
end

theorem sA_circuit {j : SI} {hp : HP} : attrGet (sAV j) "circuit" hp = some (cAV j.i) := rfl
theorem sA_inputs {j : SI} {hp : HP} : attrGet (sAV j) "inputs" hp = some (.tup (j.ins.map .int)) := rfl
theorem sA_known {j : SI} {hp : HP} : attrGet (sAV j) "known" hp = some (.ref j.b1) := rfl
theorem sA_plans {j : SI} {hp : HP} : attrGet (sAV j) "plans" hp = some (.ref j.b2) := rfl
theorem sA_supports {j : SI} {hp : HP} : attrGet (sAV j) "supports" hp = some (.ref j.b3) := rfl
section
variable {hp : HP} {K : AV → HP → Prop} {i k : Int} {x y d : AV} {a : Nat} {s u : String} {b c : Bool} {ks : List Int} {xs ys : List AV}
theorem bn_addf : wpBin .add (.fl xs) y hp K = ∃ ys, asList y hp = some ys ∧ xs.length + ys.length ≤ SZ ∧ K (.fl (xs ++ ys)) hp := propext ⟨fun ⟨_, ys, e, h⟩ => by cases e; exact ⟨ys, h⟩, fun ⟨ys, h⟩ => ⟨xs, ys, rfl, h⟩⟩
theorem cp_nel : wpCmp .ne (.fl xs) (.fl ys) hp K = ∃ is js, intsOf xs = some is ∧ intsOf ys = some js ∧ is.length = js.length ∧ K (.bool (decide (is ≠ js))) hp := propext ⟨fun ⟨_, _, is, js, e, e', h⟩ => by cases e; cases e'; exact ⟨is, js, h⟩, fun ⟨is, js, h⟩ => ⟨xs, ys, is, js, rfl, rfl, h⟩⟩
theorem cp_in : wpCmp .in_ x y hp K = ∃ b, hasKey x y hp = some b ∧ K (.bool b) hp := rfl
theorem cp_nin : wpCmp .nin x y hp K = ∃ b, hasKey x y hp = some b ∧ K (.bool (!b)) hp := rfl
end

theorem wpComp_pure {α : Type} {t : Tgt} {loc : Loc} {elt : Loc → HP → (AV → HP → Prop) → Prop} {v f : α → AV} {hp : HP} {K : AV → HP → Prop} : ∀ {xs : List α} {acc : List AV},
    (∀ x ∈ xs, ∃ l, bindT t (v x) loc = some l ∧ ∀ K, K (f x) hp → elt l hp K) → K (.fl (acc ++ xs.map f)) hp → wpComp t loc (fun _ hp2 K2 => K2 true hp2) elt (xs.map v) acc hp K
  | [], acc, _, hK => by simpa [wpComp] using hK
  | x :: xs, acc, h, hK => by
    obtain ⟨l, e1, e2⟩ := h x List.mem_cons_self
    refine ⟨l, e1, ?_⟩
    simp only [if_true]
    refine e2 _ ?_
    exact wpComp_pure (xs := xs) (fun y hy => h y (List.mem_cons_of_mem _ hy)) (by simpa using hK)
theorem wpComp_ind {t : Tgt} {loc : Loc} {cond : Loc → HP → (Bool → HP → Prop) → Prop} {elt : Loc → HP → (AV → HP → Prop) → Prop} {K : AV → HP → Prop} (Inv : List AV → List AV → HP → Prop) (done : ∀ acc h, Inv [] acc h → K (.fl acc) h)
    (step : ∀ (Q : List AV → HP → Prop) x xs acc h, (∀ acc h, Inv xs acc h → Q acc h) → Inv (x :: xs) acc h → ∃ l, bindT t x loc = some l ∧ cond l h fun b h1 => if b then elt l h1 fun v h2 => Q (acc ++ [v]) h2 else Q acc h1) :
    ∀ {xs acc : List AV} {h : HP}, Inv xs acc h → wpComp t loc cond elt xs acc h K
  | [], acc, h, i => done acc h i
  | x :: xs, acc, h, i => step (fun acc h => wpComp t loc cond elt xs acc h K) x xs acc h (fun _ _ j => wpComp_ind Inv done step j) i

theorem small_of {z : Int} (h1 : 0 ≤ z) (h2 : z ≤ 1000000000000) : small z := by unfold small; exact ⟨Int.lt_of_lt_of_le (by decide) h1, Int.lt_of_le_of_lt h2 (by decide)⟩
theorem smallN {n : Nat} (h2 : n ≤ SZ) : small n := small_of (by exact Int.natCast_nonneg _) (by unfold SZ at h2; exact Int.le_trans (Int.ofNat_le.mpr h2) (by decide))
theorem keys_map {V W : Type} (f : V → W) (l : List (Int × V)) : (l.map fun kv => (kv.1, f kv.2)).map (·.1) = l.map (·.1) := by rw [List.map_map]; rfl
theorem aGet_map {K V W : Type} [DecidableEq K] (f : V → W) : ∀ (kvs : List (K × V)) (k : K), aGet (kvs.map fun kv => (kv.1, f kv.2)) k = (aGet kvs k).map f
  | [], k => rfl
  | kv :: r, k => by
    have ih := aGet_map f r k
    unfold aGet at ih ⊢
    rw [List.map_cons, List.find?_cons, List.find?_cons]
    by_cases h : kv.1 = k
    · simp [h]
    · simpa [h] using ih
noncomputable def inK {V : Type} (l : List (Int × V)) (i : Int) : Bool := decide (i ∈ l.map (·.1))
section
variable {a : Nat} {hp : HP} {i : Int} {xs : List AV} {ks : List Int} {kvs : List (Int × AV)}
theorem hk_fd : hasKey (.int i) (.fd ks) hp = some (decide (i ∈ ks)) := rfl
theorem hk_r (h : hp a = some (.dI kvs)) : hasKey (.int i) (.ref a) hp = some (inK kvs i) := by unfold hasKey inK; simp [h]
theorem ln_fl : lenOf (.fl xs) hp = some xs.length := rfl
theorem ln_tp : lenOf (.tup xs) hp = some xs.length := rfl
theorem ln_fd : lenOf (.fd ks) hp = some ks.length := rfl
theorem ln_r (h : hp a = some (.list xs)) : lenOf (.ref a) hp = some xs.length := by unfold lenOf; simp [h]
theorem al_fl : asList (.fl xs) hp = some xs := rfl
theorem al_r (h : hp a = some (.list xs)) : asList (.ref a) hp = some xs := by unfold asList; simp [h]
theorem ko_r (h : hp a = some (.dI kvs)) : keysOf (.ref a) hp = some (kvs.map (·.1)) := by unfold keysOf; simp [h]
theorem hk_rT {vs : List AV} {js : List Int} {kvT : List (List Int × AV)} (h : hp a = some (.dT kvT)) (hi : intsOf vs = some js) : hasKey (.tup vs) (.ref a) hp = some (decide (js ∈ kvT.map (·.1))) := by unfold hasKey; simp [h, hi]
theorem ix_rT {vs : List AV} {js : List Int} {kvT : List (List Int × AV)} (h : hp a = some (.dT kvT)) (hi : intsOf vs = some js) : idxGet (.ref a) (.tup vs) hp = aGet kvT js := by unfold idxGet; simp [h, hi]
theorem ix_rS {x : String} {kvS : List (String × AV)} (h : hp a = some (.dS kvS)) : idxGet (.ref a) (.str x) hp = aGet kvS x := by unfold idxGet; simp [h]
theorem ix_fl : idxGet (.fl xs) (.int i) hp = seqGet xs i := rfl
theorem ix_tp : idxGet (.tup xs) (.int i) hp = seqGet xs i := rfl
theorem ix_rl (h : hp a = some (.list xs)) : idxGet (.ref a) (.int i) hp = seqGet xs i := by unfold idxGet; simp [h]
theorem ix_rd (h : hp a = some (.dI kvs)) : idxGet (.ref a) (.int i) hp = aGet kvs i := by unfold idxGet; simp [h]
end
section
variable {j : SI} {C : Circ} {S : Tabs} {hp : HP} {i : Int}
theorem inK_map {V W : Type} (f : V → W) (l : List (Int × V)) : inK (l.map fun kv => (kv.1, f kv.2)) i = inK l i := by unfold inK; rw [List.map_map]; rfl
theorem hk_kn : hasKey (.int i) (.ref j.b1) (putS j C S hp) = some (inK S.kn i) := by rw [hk_r putS1]; unfold knL; rw [inK_map]
theorem hk_pl : hasKey (.int i) (.ref j.b2) (putS j C S hp) = some (inK S.pl i) := by rw [hk_r putS2]; unfold plL; rw [inK_map]
theorem hk_su : hasKey (.int i) (.ref j.b3) (putS j C S hp) = some (inK S.su i) := by rw [hk_r putS3]; unfold suL; rw [inK_map]
theorem ix_kn : idxGet (.ref j.b1) (.int i) (putS j C S hp) = (aGet S.kn i).map .int := by rw [ix_rd putS1]; exact aGet_map _ _ _
theorem ix_pl : idxGet (.ref j.b2) (.int i) (putS j C S hp) = (aGet S.pl i).map plV := by rw [ix_rd putS2]; exact aGet_map _ _ _
theorem ix_su : idxGet (.ref j.b3) (.int i) (putS j C S hp) = (aGet S.su i).map .fd := by rw [ix_rd putS3]; exact aGet_map _ _ _
theorem inK_t {V : Type} {l : List (Int × V)} {i : Int} (h : i ∈ l.map (·.1)) : inK l i = true := decide_eq_true h
theorem inK_f {V : Type} {l : List (Int × V)} {i : Int} (h : i ∉ l.map (·.1)) : inK l i = false := decide_eq_false h
theorem inK_false {V : Type} {l : List (Int × V)} {i : Int} : inK l i = false ↔ i ∉ l.map (·.1) := by unfold inK; exact decide_eq_false_iff_not
theorem inK_true {V : Type} {l : List (Int × V)} {i : Int} : inK l i = true ↔ i ∈ l.map (·.1) := by unfold inK; exact decide_eq_true_iff
end
end Mine
end
section
set_option Elab.async false
set_option maxRecDepth 100000
set_option linter.unusedVariables false
namespace Mine
/-! stepping by rules (in place of simp): each rule is the definition's own unfolding -/

noncomputable def seqK (C : CallSem) (ss : Ss) (KF : Fl → Loc → HP → Prop) : Fl → Loc → HP → Prop := fun f l h => match f with
  | .next => wpB C ss l h KF
  | f => KF f l h
noncomputable def negK (K : AV → HP → Prop) : AV → HP → Prop := fun v hp => match v with | .int i => K (.int (-i)) hp | _ => False
noncomputable def setK (ov kv v : AV) (hp : HP) (KN : HP → Prop) : Prop := match ov, kv with
  | .ref a, .int i => ∃ kvs, hp a = some (.dI kvs) ∧ kvs.length ≤ SZ ∧ KN (hp.set a (.dI (aPut kvs i v)))
  | .ref a, .str i => ∃ kvs, hp a = some (.dS kvs) ∧ kvs.length ≤ SZ ∧ KN (hp.set a (.dS (aPut kvs i v)))
  | .ref a, .tup xs => ∃ kvs is, hp a = some (.dT kvs) ∧ intsOf xs = some is ∧ kvs.length ≤ SZ ∧ KN (hp.set a (.dT (aPut kvs is v)))
  | _, _ => False
noncomputable def finK (K : AV → HP → Prop) : Fl → Loc → HP → Prop := fun fl _ hp1 => ∃ hp2, HP.Sub hp2 hp1 ∧ K (retOf fl) hp2

section
variable {C : CallSem} {loc l : Loc} {hp : HP} {K : AV → HP → Prop} {KF : Fl → Loc → HP → Prop} {Kb : Bool → HP → Prop} {Ks : List AV → HP → Prop} {KN : HP → Prop} {s : S} {ss t e2 b : Ss} {e e1 o i : E} {es : Es} {x y n : String} {v u : AV} {vs : List AV}
  {op : Op2} {cm : Cmp} {bi : Bi} {m : LM} {c : Bool} {X Y : Prop} {z k : Int} {a : Nat} {f : String} {xs : List String} {p : Prop}

theorem lk_here : (l.set x v) x = some v := if_pos rfl
theorem lk_ne (h : y ≠ x) : (l.set x u) y = l y := if_neg h

theorem g_cons (h : wpS C s loc hp (seqK C ss KF)) : wpB C (.cons s ss) loc hp KF := h
theorem g_nilB (h : KF .next loc hp) : wpB C .nil loc hp KF := h
theorem g_next (h : wpB C ss loc hp KF) : seqK C ss KF .next loc hp := h
theorem g_sret (h : KF (.ret v) loc hp) : seqK C ss KF (.ret v) loc hp := h
theorem g_scont (h : KF .cont loc hp) : seqK C ss KF .cont loc hp := h
theorem g_assign (h : wpE C e loc hp fun v hp1 => KF .next (loc.set x v) hp1) : wpS C (.assign x e) loc hp KF := h
theorem g_assigns (h : wpE C e loc hp fun v hp1 => ∃ vs, v = .tup vs ∧ xs.length = vs.length ∧ xs.Nodup ∧ KF .next (setAll loc xs vs) hp1) : wpS C (.assigns xs e) loc hp KF := h
theorem g_a2 {x1 x2 : String} {v1 v2 : AV} (hn : [x1, x2].Nodup) (h : KF .next ((loc.set x1 v1).set x2 v2) hp) : ∃ vs, AV.tup [v1, v2] = .tup vs ∧ [x1, x2].length = vs.length ∧ [x1, x2].Nodup ∧ KF .next (setAll loc [x1, x2] vs) hp := ⟨_, rfl, rfl, hn, h⟩
theorem g_a3 {x1 x2 x3 : String} {v1 v2 v3 : AV} (hn : [x1, x2, x3].Nodup) (h : KF .next (((loc.set x1 v1).set x2 v2).set x3 v3) hp) : ∃ vs, AV.tup [v1, v2, v3] = .tup vs ∧ [x1, x2, x3].length = vs.length ∧ [x1, x2, x3].Nodup ∧ KF .next (setAll loc [x1, x2, x3] vs) hp := ⟨_, rfl, rfl, hn, h⟩
theorem g_a4 {x1 x2 x3 x4 : String} {v1 v2 v3 v4 : AV} (hn : [x1, x2, x3, x4].Nodup) (h : KF .next ((((loc.set x1 v1).set x2 v2).set x3 v3).set x4 v4) hp) : ∃ vs, AV.tup [v1, v2, v3, v4] = .tup vs ∧ [x1, x2, x3, x4].length = vs.length ∧ [x1, x2, x3, x4].Nodup ∧ KF .next (setAll loc [x1, x2, x3, x4] vs) hp := ⟨_, rfl, rfl, hn, h⟩
theorem g_setIdx (h : wpE C e loc hp fun v hp1 => wpE C o loc hp1 fun ov hp2 => wpE C i loc hp2 fun kv hp3 => setK ov kv v hp3 (KF .next loc)) : wpS C (.setIdx o i e) loc hp KF := h
theorem g_setI {kvs : List (Int × AV)} (h : hp a = some (.dI kvs)) (hl : kvs.length ≤ SZ) (k : KN (hp.set a (.dI (aPut kvs z v)))) : setK (.ref a) (.int z) v hp KN := ⟨kvs, h, hl, k⟩
theorem g_setT {kvs : List (List Int × AV)} {xs : List AV} {is : List Int} (h : hp a = some (.dT kvs)) (hi : intsOf xs = some is) (hl : kvs.length ≤ SZ) (k : KN (hp.set a (.dT (aPut kvs is v)))) : setK (.ref a) (.tup xs) v hp KN := ⟨kvs, is, h, hi, hl, k⟩
theorem g_setS {kvs : List (String × AV)} (h : hp a = some (.dS kvs)) (hl : kvs.length ≤ SZ) (k : KN (hp.set a (.dS (aPut kvs x v)))) : setK (.ref a) (.str x) v hp KN := ⟨kvs, h, hl, k⟩
theorem g_expr (h : wpE C e loc hp fun v hp1 => (v = .none ∨ ∃ i, v = .int i) ∧ KF .next loc hp1) : wpS C (.expr e) loc hp KF := h
theorem g_eN (h : X) : (AV.none = .none ∨ ∃ i, AV.none = .int i) ∧ X := ⟨.inl rfl, h⟩
theorem g_eI (h : X) : (AV.int z = .none ∨ ∃ i, AV.int z = .int i) ∧ X := ⟨.inr ⟨z, rfl⟩, h⟩
theorem g_iff (h : wpE C e loc hp (tv fun b hp1 => if b then wpB C t loc hp1 KF else wpB C e2 loc hp1 KF)) : wpS C (.iff e t e2) loc hp KF := h
theorem g_for {tg : Tgt} (h : wpE C e loc hp fun x hp1 => ∃ xs, itemsOf x = some xs ∧ wpFor tg (fun l h K2 => wpB C b l h K2) xs loc hp1 KF) : wpS C (.for_ tg e b) loc hp KF := h
theorem g_while (h : wpWhile (fun l h K2 => wpE C e l h (tv K2)) (fun l h K2 => wpB C b l h K2) loc hp KF) : wpS C (.while_ e b) loc hp KF := h
theorem g_ret (h : wpE C e loc hp fun v hp1 => KF (.ret v) loc hp1) : wpS C (.ret e) loc hp KF := h
theorem g_cont (h : KF .cont loc hp) : wpS C .cont loc hp KF := h
theorem g_frz {ob : AObj} (q : loc x = some (.ref a)) (h : hp a = some ob) (hf : frozen ob = some v) (k : KF .next (loc.set x v) (hp.del a)) : wpS C (.freeze x) loc hp KF := ⟨.ref a, q, .inl ⟨ob, v, h, hf, k⟩⟩
theorem g_frzI {Cn : String} {d : Nat} {at_ : List (String × AV)} (q : loc x = some (.ref a)) (h : hp a = some (.inst Cn d)) (h2 : hp d = some (.attrs at_)) (k : KF .next (loc.set x (.inst Cn at_)) ((hp.del a).del d)) : wpS C (.freeze x) loc hp KF := ⟨.ref a, q, .inr ⟨Cn, d, at_, h, h2, k⟩⟩
theorem g_fin {hp2 : HP} (h : HP.Sub hp2 hp) (k : K v hp2) : finK K (.ret v) loc hp := ⟨hp2, h, k⟩
theorem g_fin0 (k : K v hp) : finK K (.ret v) loc hp := ⟨hp, HP.Sub.refl _, k⟩

theorem g_int (h : K (.int z) hp) : wpE C (.int z) loc hp K := h
theorem g_str (h : K (.str x) hp) : wpE C (.str x) loc hp K := h
theorem g_bool (h : K (.bool c) hp) : wpE C (.bool c) loc hp K := h
theorem g_var (q : loc x = some v) (h : K v hp) : wpE C (.var x) loc hp K := ⟨v, q, h⟩
theorem g_bin (h : wpE C e loc hp fun a hp1 => wpE C e1 loc hp1 fun b hp2 => wpBin op a b hp2 K) : wpE C (.bin op e e1) loc hp K := h
theorem g_neg (h : wpE C e loc hp (negK K)) : wpE C (.neg e) loc hp K := h
theorem g_negK (h : K (.int (-z)) hp) : negK K (.int z) hp := h
theorem g_not (h : wpE C e loc hp (tv fun b hp1 => K (.bool (!b)) hp1)) : wpE C (.not_ e) loc hp K := h
theorem g_and (h : wpE C e loc hp (tv fun b hp1 => if b then wpE C e1 loc hp1 (tv fun b2 hp2 => K (.bool b2) hp2) else K (.bool false) hp1)) : wpE C (.and_ e e1) loc hp K := h
theorem g_or (h : wpE C e loc hp (tv fun b hp1 => if b then K (.bool true) hp1 else wpE C e1 loc hp1 (tv fun b2 hp2 => K (.bool b2) hp2))) : wpE C (.or_ e e1) loc hp K := h
theorem g_tv (h : Kb c hp) : tv Kb (.bool c) hp := h
theorem g_pos (q : c = true) (h : X) : if c then X else Y := by rw [if_pos q]; exact h
theorem g_nega (q : c = false) (h : Y) : if c then X else Y := by rw [if_neg (by rw [q]; decide)]; exact h
theorem g_neg0 (h : Y) : if (false : Bool) = true then X else Y := by rw [if_neg (by decide)]; exact h
theorem g_dpos [Decidable p] (q : p) (h : X) : if decide p then X else Y := g_pos (decide_eq_true q) h
theorem g_dneg [Decidable p] (q : ¬ p) (h : Y) : if decide p then X else Y := g_nega (decide_eq_false q) h
theorem g_cmp (h : wpE C e loc hp fun a hp1 => wpE C e1 loc hp1 fun b hp2 => wpCmp cm a b hp2 K) : wpE C (.cmp cm e e1) loc hp K := h
theorem g_ite (h : wpE C o loc hp (tv fun b hp1 => if b then wpE C e loc hp1 K else wpE C e1 loc hp1 K)) : wpE C (.ite o e e1) loc hp K := h
theorem g_attr (h : wpE C e loc hp fun o hp1 => ∃ v, attrGet o n hp1 = some v ∧ K v hp1) : wpE C (.attr e n) loc hp K := h
theorem g_ga {Kx : AV → Prop} (q : attrGet u n hp = some v) (h : Kx v) : ∃ v, attrGet u n hp = some v ∧ Kx v := ⟨v, q, h⟩
theorem g_idx (h : wpE C e loc hp fun o hp1 => wpE C i loc hp1 fun j hp2 => ∃ v, idxGet o j hp2 = some v ∧ (∀ k, j = .int k → small k) ∧ K v hp2) : wpE C (.idx e i) loc hp K := h
theorem g_gi {Kx : AV → Prop} (q : idxGet u (.int z) hp = some v) (hs : small z) (h : Kx v) : ∃ v, idxGet u (.int z) hp = some v ∧ (∀ k, AV.int z = .int k → small k) ∧ Kx v := ⟨v, q, fun k e => by cases e; exact hs, h⟩
theorem g_gs {Kx : AV → Prop} (q : idxGet u (.str x) hp = some v) (h : Kx v) : ∃ v, idxGet u (.str x) hp = some v ∧ (∀ k, AV.str x = .int k → small k) ∧ Kx v := ⟨v, q, fun k e => (nomatch e), h⟩
theorem g_gt {Kx : AV → Prop} (q : idxGet u (.tup vs) hp = some v) (h : Kx v) : ∃ v, idxGet u (.tup vs) hp = some v ∧ (∀ k, AV.tup vs = .int k → small k) ∧ Kx v := ⟨v, q, fun k e => (nomatch e), h⟩
theorem g_tup (h : wpEs C es loc hp fun vs hp1 => vs.length ≤ 100 ∧ K (.tup vs) hp1) : wpE C (.tup es) loc hp K := h
theorem g_list (h : wpEs C es loc hp fun vs hp1 => vs.length ≤ 100 ∧ ∀ a, hp1 a = Option.none → K (.ref a) (hp1.set a (.list vs))) : wpE C (.list es) loc hp K := h
theorem g_flist (h : wpEs C es loc hp fun vs hp1 => vs.length ≤ 100 ∧ K (.fl vs) hp1) : wpE C (.flist es) loc hp K := h
theorem g_l0 (h : X) : ([] : List AV).length ≤ 100 ∧ X := ⟨Nat.le_of_ble_eq_true rfl, h⟩
theorem g_l1 {v1 : AV} (h : X) : [v1].length ≤ 100 ∧ X := ⟨Nat.le_of_ble_eq_true rfl, h⟩
theorem g_l2 {v1 v2 : AV} (h : X) : [v1, v2].length ≤ 100 ∧ X := ⟨Nat.le_of_ble_eq_true rfl, h⟩
theorem g_l3 {v1 v2 v3 : AV} (h : X) : [v1, v2, v3].length ≤ 100 ∧ X := ⟨Nat.le_of_ble_eq_true rfl, h⟩
theorem g_l4 {v1 v2 v3 v4 : AV} (h : X) : [v1, v2, v3, v4].length ≤ 100 ∧ X := ⟨Nat.le_of_ble_eq_true rfl, h⟩
theorem g_dict0 {tk : Bool} (h : ∀ a, hp a = Option.none → K (.ref a) (hp.set a (if tk then .dT [] else .dI []))) : wpE C (.dict0 tk) loc hp K := h
noncomputable def dict1K (kv vv : AV) (hp : HP) (K : AV → HP → Prop) : Prop := match kv with
  | .int i => ∀ a, hp a = Option.none → K (.ref a) (hp.set a (.dI [(i, vv)]))
  | _ => False
theorem g_dict1 (h : wpE C e loc hp fun kv hp1 => wpE C e1 loc hp1 fun vv hp2 => dict1K kv vv hp2 K) : wpE C (.dict1 e e1) loc hp K := h
theorem g_d1 (h : ∀ a, hp a = Option.none → K (.ref a) (hp.set a (.dI [(z, v)]))) : dict1K (.int z) v hp K := h
theorem g_comp {tg : Tgt} (h : wpE C i loc hp fun x hp1 => ∃ xs, itemsOf x = some xs ∧ xs.length ≤ SZ ∧ wpComp tg loc (fun _ hp2 K2 => K2 true hp2) (fun l2 hp2 K2 => wpE C e l2 hp2 K2) xs [] hp1 K) : wpE C (.comp e tg i) loc hp K := h
theorem g_compIf {tg : Tgt} (h : wpE C i loc hp fun x hp1 => ∃ xs, itemsOf x = some xs ∧ xs.length ≤ SZ ∧ wpComp tg loc (fun l2 hp2 K2 => wpE C o l2 hp2 (tv K2)) (fun l2 hp2 K2 => wpE C e l2 hp2 K2) xs [] hp1 K) : wpE C (.compIf e tg i o) loc hp K := h
theorem g_bi (h : wpEs C es loc hp fun vs hp1 => wpBi bi vs hp1 K) : wpE C (.bi bi es) loc hp K := h
theorem g_call (h : wpEs C es loc hp fun vs hp1 => C f vs hp1 K) : wpE C (.call f es) loc hp K := h
theorem g_meth (h : wpE C o loc hp fun ov hp1 => ∃ Cn at_, ov = .inst Cn at_ ∧ aGet at_ f = none ∧ (Cn, f) ∈ methNames ∧ wpEs C es loc hp1 fun vs hp2 => C (Cn ++ "." ++ f) (ov :: vs) hp2 K) : wpE C (.meth o f es) loc hp K := h
theorem g_lm (h : wpE C o loc hp fun ov hp1 => lmTy ov m hp1 ∧ wpEs C es loc hp1 fun vs hp2 => wpLm ov m vs hp2 K) : wpE C (.lm o m es) loc hp K := h
theorem g_nil (h : Ks [] hp) : wpEs C .nil loc hp Ks := h
theorem g_es (h : wpE C e loc hp fun v hp1 => wpEs C es loc hp1 fun vs hp2 => Ks (v :: vs) hp2) : wpEs C (.cons e es) loc hp Ks := h

theorem g_add (h : K (.int (z + k)) hp) : wpBin .add (.int z) (.int k) hp K := h
theorem g_sub (h : K (.int (z - k)) hp) : wpBin .sub (.int z) (.int k) hp K := h
theorem g_mul (h1 : small z) (h2 : small k) (h : K (.int (z * k)) hp) : wpBin .mul (.int z) (.int k) hp K := ⟨h1, h2, h⟩
theorem g_fdiv (h1 : 0 < k) (h2 : k ≤ 1000000) (h : K (.int (z / k)) hp) : wpBin .fdiv (.int z) (.int k) hp K := ⟨h1, h2, h⟩
theorem g_mod (h1 : 0 < k) (h : K (.int (z % k)) hp) : wpBin .mod (.int z) (.int k) hp K := ⟨h1, h⟩
theorem g_pow (h1 : small z) (h2 : 0 ≤ k) (h3 : k ≤ 1000) (h : K (.int (z ^ k.toNat)) hp) : wpBin .pow (.int z) (.int k) hp K := ⟨h1, h2, h3, h⟩
theorem g_shl (h1 : small z) (h2 : 0 ≤ k) (h3 : k ≤ 1000) (h : K (.int (z * 2 ^ k.toNat)) hp) : wpBin .shl (.int z) (.int k) hp K := ⟨h1, h2, h3, h⟩
theorem g_cat {xs ys : List AV} (h1 : asList (.fl xs) hp = some xs) (h2 : asList u hp = some ys) (h3 : xs.length + ys.length ≤ SZ) (h : K (.fl (xs ++ ys)) hp) : wpBin .add (.fl xs) u hp K := by rw [bn_addf]; exact ⟨ys, h2, h3, h⟩
theorem g_catr {xs ys : List AV} (h1 : asList (.ref a) hp = some xs) (h2 : asList u hp = some ys) (h3 : xs.length + ys.length ≤ SZ) (h : K (.fl (xs ++ ys)) hp) : wpBin .add (.ref a) u hp K := ⟨xs, ys, h1, h2, h3, h⟩
theorem g_eqi (h : K (.bool (decide (z = k))) hp) : wpCmp .eq (.int z) (.int k) hp K := h
theorem g_eqs (h : K (.bool (decide (x = y))) hp) : wpCmp .eq (.str x) (.str y) hp K := h
theorem g_eqb {d : Bool} (h : K (.bool (decide (c = d))) hp) : wpCmp .eq (.bool c) (.bool d) hp K := h
theorem g_nei (h : K (.bool (decide (z ≠ k))) hp) : wpCmp .ne (.int z) (.int k) hp K := h
theorem g_nes (h : K (.bool (decide (x ≠ y))) hp) : wpCmp .ne (.str x) (.str y) hp K := h
theorem g_lt (h : K (.bool (decide (z < k))) hp) : wpCmp .lt (.int z) (.int k) hp K := h
theorem g_gt' (h : K (.bool (decide (z > k))) hp) : wpCmp .gt (.int z) (.int k) hp K := h
theorem g_le (h : K (.bool (decide (z ≤ k))) hp) : wpCmp .le (.int z) (.int k) hp K := h
theorem g_in (q : hasKey u v hp = some c) (h : K (.bool c) hp) : wpCmp .in_ u v hp K := by rw [cp_in]; exact ⟨c, q, h⟩
theorem g_nin (q : hasKey u v hp = some c) (h : K (.bool (!c)) hp) : wpCmp .nin u v hp K := by rw [cp_nin]; exact ⟨c, q, h⟩
theorem g_abs (h : K (.int z.natAbs) hp) : wpBi .abs [.int z] hp K := h
theorem g_len {q : Nat} (h1 : lenOf u hp = some q) (h2 : q ≤ SZ) (h : K (.int q) hp) : wpBi .len [u] hp K := ⟨q, h1, h2, h⟩
theorem g_sum {xs : List AV} {is : List Int} (h1 : asList u hp = some xs) (h2 : intsOf xs = some is) (h : K (.int is.sum) hp) : wpBi .sum [u] hp K := ⟨xs, is, h1, h2, h⟩
theorem g_tuple {xs : List AV} (h1 : asList u hp = some xs) (h2 : xs.length ≤ SZ) (h : K (.tup xs) hp) : wpBi .tuple [u] hp K := ⟨xs, h1, h2, h⟩
theorem g_sorted {is : List Int} (h1 : keysOf u hp = some is) (h2 : is.length < 64) (h : ∀ out : List Int, out.Perm is → out.Pairwise (· ≤ ·) → K (.fl (out.map .int)) hp) : wpBi .sorted [u] hp K := ⟨is, h1, h2, h⟩
theorem g_dict {ks : List Int} (h1 : ks.length ≤ SZ) (h : ∀ a, hp a = Option.none → K (.ref a) (hp.set a (.dI (ks.map fun k => (k, .bool true))))) : wpBi .dict [.fd ks] hp K := ⟨h1, h⟩
theorem g_range1 (h1 : small z) (h : K (.rng 0 z) hp) : wpBi .range [.int z] hp K := ⟨h1, h⟩
theorem g_range2 (h1 : small z) (h2 : small k) (h : K (.rng z k) hp) : wpBi .range [.int z, .int k] hp K := ⟨h1, h2, h⟩
theorem g_tappend {xs : List AV} (q : hp a = some (.list xs)) (h : X) : lmTy (.ref a) .append hp ∧ X := ⟨⟨xs, q⟩, h⟩
theorem g_textend {xs : List AV} (q : hp a = some (.list xs)) (h : X) : lmTy (.ref a) .extend hp ∧ X := ⟨⟨xs, q⟩, h⟩
theorem g_tpop {xs : List AV} (q : hp a = some (.list xs)) (h : X) : lmTy (.ref a) .pop hp ∧ X := ⟨⟨xs, q⟩, h⟩
theorem g_tget {kvs : List (Int × AV)} (q : hp a = some (.dI kvs)) (h : X) : lmTy (.ref a) .get hp ∧ X := ⟨⟨kvs, q⟩, h⟩
theorem g_tupdate {kvs : List (Int × AV)} (q : hp a = some (.dI kvs)) (h : X) : lmTy (.ref a) .update hp ∧ X := ⟨⟨kvs, q⟩, h⟩
theorem g_tcount {xs : List AV} (h : X) : lmTy (.fl xs) .count hp ∧ X := ⟨trivial, h⟩
theorem g_append {xs : List AV} (q : hp a = some (.list xs)) (h2 : xs.length ≤ SZ) (h : K .none (hp.set a (.list (xs ++ [v])))) : wpLm (.ref a) .append [v] hp K := ⟨xs, q, h2, h⟩
theorem g_extend {xs ys : List AV} (q : hp a = some (.list xs)) (h2 : xs.length + ys.length ≤ SZ) (h : K .none (hp.set a (.list (xs ++ ys)))) : wpLm (.ref a) .extend [.fl ys] hp K := ⟨xs, q, h2, h⟩
theorem g_pop {xs : List AV} (q : hp a = some (.list (xs ++ [v]))) (h2 : xs.length ≤ SZ) (h : K v (hp.set a (.list xs))) : wpLm (.ref a) .pop [] hp K := ⟨xs, v, q, h2, h⟩
theorem g_count {xs : List AV} {bs : List Bool} (q : boolsOf xs = some bs) (h2 : bs.length ≤ SZ) (h : K (.int (bs.count c)) hp) : wpLm (.fl xs) .count [.bool c] hp K := ⟨bs, q, h2, h⟩
theorem g_get {kvs : List (Int × AV)} (q : hp a = some (.dI kvs)) (h : K ((aGet kvs z).getD u) hp) : wpLm (.ref a) .get [.int z, u] hp K := ⟨kvs, q, h⟩
theorem g_update {kvs : List (Int × AV)} {ks : List Int} (q : hp a = some (.dI kvs)) (h2 : kvs.length + ks.length ≤ SZ) (h : K .none (hp.set a (.dI (aMerge kvs (ks.map fun k => (k, .bool true)))))) : wpLm (.ref a) .update [.fd ks] hp K := ⟨kvs, q, h2, h⟩
end

section
variable {f : String} {body : Ss} {hp : HP} {K : AV → HP → Prop} {n : Nat} {x1 x2 x3 x4 x5 : String} {v1 v2 v3 v4 v5 : AV}
theorem call1 (hP : P f = some ([x1], body)) (h : wpB (Call P n) body (Loc.set (fun _ => none) x1 v1) hp (finK K)) : Call P (n + 1) f [v1] hp K := call_of hP rfl h
theorem call2 (hP : P f = some ([x1, x2], body)) (h : wpB (Call P n) body ((Loc.set (fun _ => none) x1 v1).set x2 v2) hp (finK K)) : Call P (n + 1) f [v1, v2] hp K := call_of hP rfl h
theorem call3 (hP : P f = some ([x1, x2, x3], body)) (h : wpB (Call P n) body (((Loc.set (fun _ => none) x1 v1).set x2 v2).set x3 v3) hp (finK K)) : Call P (n + 1) f [v1, v2, v3] hp K := call_of hP rfl h
theorem call4 (hP : P f = some ([x1, x2, x3, x4], body)) (h : wpB (Call P n) body ((((Loc.set (fun _ => none) x1 v1).set x2 v2).set x3 v3).set x4 v4) hp (finK K)) : Call P (n + 1) f [v1, v2, v3, v4] hp K := call_of hP rfl h
theorem call5 (hP : P f = some ([x1, x2, x3, x4, x5], body)) (h : wpB (Call P n) body (((((Loc.set (fun _ => none) x1 v1).set x2 v2).set x3 v3).set x4 v4).set x5 v5) hp (finK K)) : Call P (n + 1) f [v1, v2, v3, v4, v5] hp K := call_of hP rfl h
end

section
variable {C : CallSem} {loc : Loc} {hp : HP} {K : AV → HP → Prop} {es : Es} {i : CI} {j : SI}
theorem gc_kind (h : wpEs C es loc hp fun vs hp2 => C "Circuit.kind" (cAV i :: vs) hp2 K) : ∃ Cn at_, cAV i = .inst Cn at_ ∧ aGet at_ "kind" = none ∧ (Cn, "kind") ∈ methNames ∧ wpEs C es loc hp fun vs hp2 => C (Cn ++ "." ++ "kind") (cAV i :: vs) hp2 K := ⟨_, _, rfl, rfl, by decide, h⟩
theorem gc_parts (h : wpEs C es loc hp fun vs hp2 => C "Circuit.parts" (cAV i :: vs) hp2 K) : ∃ Cn at_, cAV i = .inst Cn at_ ∧ aGet at_ "parts" = none ∧ (Cn, "parts") ∈ methNames ∧ wpEs C es loc hp fun vs hp2 => C (Cn ++ "." ++ "parts") (cAV i :: vs) hp2 K := ⟨_, _, rfl, rfl, by decide, h⟩
theorem gc_new_gate (h : wpEs C es loc hp fun vs hp2 => C "Circuit.new_gate" (cAV i :: vs) hp2 K) : ∃ Cn at_, cAV i = .inst Cn at_ ∧ aGet at_ "new_gate" = none ∧ (Cn, "new_gate") ∈ methNames ∧ wpEs C es loc hp fun vs hp2 => C (Cn ++ "." ++ "new_gate") (cAV i :: vs) hp2 K := ⟨_, _, rfl, rfl, by decide, h⟩
theorem gc_new_input (h : wpEs C es loc hp fun vs hp2 => C "Circuit.new_input" (cAV i :: vs) hp2 K) : ∃ Cn at_, cAV i = .inst Cn at_ ∧ aGet at_ "new_input" = none ∧ (Cn, "new_input") ∈ methNames ∧ wpEs C es loc hp fun vs hp2 => C (Cn ++ "." ++ "new_input") (cAV i :: vs) hp2 K := ⟨_, _, rfl, rfl, by decide, h⟩
theorem gc_all_of (h : wpEs C es loc hp fun vs hp2 => C "Circuit.all_of" (cAV i :: vs) hp2 K) : ∃ Cn at_, cAV i = .inst Cn at_ ∧ aGet at_ "all_of" = none ∧ (Cn, "all_of") ∈ methNames ∧ wpEs C es loc hp fun vs hp2 => C (Cn ++ "." ++ "all_of") (cAV i :: vs) hp2 K := ⟨_, _, rfl, rfl, by decide, h⟩
theorem gc_both (h : wpEs C es loc hp fun vs hp2 => C "Circuit.both" (cAV i :: vs) hp2 K) : ∃ Cn at_, cAV i = .inst Cn at_ ∧ aGet at_ "both" = none ∧ (Cn, "both") ∈ methNames ∧ wpEs C es loc hp fun vs hp2 => C (Cn ++ "." ++ "both") (cAV i :: vs) hp2 K := ⟨_, _, rfl, rfl, by decide, h⟩
theorem gc_either (h : wpEs C es loc hp fun vs hp2 => C "Circuit.either" (cAV i :: vs) hp2 K) : ∃ Cn at_, cAV i = .inst Cn at_ ∧ aGet at_ "either" = none ∧ (Cn, "either") ∈ methNames ∧ wpEs C es loc hp fun vs hp2 => C (Cn ++ "." ++ "either") (cAV i :: vs) hp2 K := ⟨_, _, rfl, rfl, by decide, h⟩
theorem gc_implies (h : wpEs C es loc hp fun vs hp2 => C "Circuit.implies" (cAV i :: vs) hp2 K) : ∃ Cn at_, cAV i = .inst Cn at_ ∧ aGet at_ "implies" = none ∧ (Cn, "implies") ∈ methNames ∧ wpEs C es loc hp fun vs hp2 => C (Cn ++ "." ++ "implies") (cAV i :: vs) hp2 K := ⟨_, _, rfl, rfl, by decide, h⟩
theorem gc_iff (h : wpEs C es loc hp fun vs hp2 => C "Circuit.iff" (cAV i :: vs) hp2 K) : ∃ Cn at_, cAV i = .inst Cn at_ ∧ aGet at_ "iff" = none ∧ (Cn, "iff") ∈ methNames ∧ wpEs C es loc hp fun vs hp2 => C (Cn ++ "." ++ "iff") (cAV i :: vs) hp2 K := ⟨_, _, rfl, rfl, by decide, h⟩
theorem gc_unlike (h : wpEs C es loc hp fun vs hp2 => C "Circuit.unlike" (cAV i :: vs) hp2 K) : ∃ Cn at_, cAV i = .inst Cn at_ ∧ aGet at_ "unlike" = none ∧ (Cn, "unlike") ∈ methNames ∧ wpEs C es loc hp fun vs hp2 => C (Cn ++ "." ++ "unlike") (cAV i :: vs) hp2 K := ⟨_, _, rfl, rfl, by decide, h⟩
theorem gc_choose (h : wpEs C es loc hp fun vs hp2 => C "Circuit.choose" (cAV i :: vs) hp2 K) : ∃ Cn at_, cAV i = .inst Cn at_ ∧ aGet at_ "choose" = none ∧ (Cn, "choose") ∈ methNames ∧ wpEs C es loc hp fun vs hp2 => C (Cn ++ "." ++ "choose") (cAV i :: vs) hp2 K := ⟨_, _, rfl, rfl, by decide, h⟩
theorem gs_below (h : wpEs C es loc hp fun vs hp2 => C "Counter.below" (sAV j :: vs) hp2 K) : ∃ Cn at_, sAV j = .inst Cn at_ ∧ aGet at_ "below" = none ∧ (Cn, "below") ∈ methNames ∧ wpEs C es loc hp fun vs hp2 => C (Cn ++ "." ++ "below") (sAV j :: vs) hp2 K := ⟨_, _, rfl, rfl, by decide, h⟩
theorem gs_support (h : wpEs C es loc hp fun vs hp2 => C "Counter.support" (sAV j :: vs) hp2 K) : ∃ Cn at_, sAV j = .inst Cn at_ ∧ aGet at_ "support" = none ∧ (Cn, "support") ∈ methNames ∧ wpEs C es loc hp fun vs hp2 => C (Cn ++ "." ++ "support") (sAV j :: vs) hp2 K := ⟨_, _, rfl, rfl, by decide, h⟩
theorem gs_gathered (h : wpEs C es loc hp fun vs hp2 => C "Counter.gathered" (sAV j :: vs) hp2 K) : ∃ Cn at_, sAV j = .inst Cn at_ ∧ aGet at_ "gathered" = none ∧ (Cn, "gathered") ∈ methNames ∧ wpEs C es loc hp fun vs hp2 => C (Cn ++ "." ++ "gathered") (sAV j :: vs) hp2 K := ⟨_, _, rfl, rfl, by decide, h⟩
theorem gs_turned (h : wpEs C es loc hp fun vs hp2 => C "Counter.turned" (sAV j :: vs) hp2 K) : ∃ Cn at_, sAV j = .inst Cn at_ ∧ aGet at_ "turned" = none ∧ (Cn, "turned") ∈ methNames ∧ wpEs C es loc hp fun vs hp2 => C (Cn ++ "." ++ "turned") (sAV j :: vs) hp2 K := ⟨_, _, rfl, rfl, by decide, h⟩
theorem gs_settled (h : wpEs C es loc hp fun vs hp2 => C "Counter.settled" (sAV j :: vs) hp2 K) : ∃ Cn at_, sAV j = .inst Cn at_ ∧ aGet at_ "settled" = none ∧ (Cn, "settled") ∈ methNames ∧ wpEs C es loc hp fun vs hp2 => C (Cn ++ "." ++ "settled") (sAV j :: vs) hp2 K := ⟨_, _, rfl, rfl, by decide, h⟩
theorem gs_groups (h : wpEs C es loc hp fun vs hp2 => C "Counter.groups" (sAV j :: vs) hp2 K) : ∃ Cn at_, sAV j = .inst Cn at_ ∧ aGet at_ "groups" = none ∧ (Cn, "groups") ∈ methNames ∧ wpEs C es loc hp fun vs hp2 => C (Cn ++ "." ++ "groups") (sAV j :: vs) hp2 K := ⟨_, _, rfl, rfl, by decide, h⟩
theorem gs_pick (h : wpEs C es loc hp fun vs hp2 => C "Counter.pick" (sAV j :: vs) hp2 K) : ∃ Cn at_, sAV j = .inst Cn at_ ∧ aGet at_ "pick" = none ∧ (Cn, "pick") ∈ methNames ∧ wpEs C es loc hp fun vs hp2 => C (Cn ++ "." ++ "pick") (sAV j :: vs) hp2 K := ⟨_, _, rfl, rfl, by decide, h⟩
theorem gs_plan (h : wpEs C es loc hp fun vs hp2 => C "Counter.plan" (sAV j :: vs) hp2 K) : ∃ Cn at_, sAV j = .inst Cn at_ ∧ aGet at_ "plan" = none ∧ (Cn, "plan") ∈ methNames ∧ wpEs C es loc hp fun vs hp2 => C (Cn ++ "." ++ "plan") (sAV j :: vs) hp2 K := ⟨_, _, rfl, rfl, by decide, h⟩
theorem gs_is_ready (h : wpEs C es loc hp fun vs hp2 => C "Counter.is_ready" (sAV j :: vs) hp2 K) : ∃ Cn at_, sAV j = .inst Cn at_ ∧ aGet at_ "is_ready" = none ∧ (Cn, "is_ready") ∈ methNames ∧ wpEs C es loc hp fun vs hp2 => C (Cn ++ "." ++ "is_ready") (sAV j :: vs) hp2 K := ⟨_, _, rfl, rfl, by decide, h⟩
theorem gs_own (h : wpEs C es loc hp fun vs hp2 => C "Counter.own" (sAV j :: vs) hp2 K) : ∃ Cn at_, sAV j = .inst Cn at_ ∧ aGet at_ "own" = none ∧ (Cn, "own") ∈ methNames ∧ wpEs C es loc hp fun vs hp2 => C (Cn ++ "." ++ "own") (sAV j :: vs) hp2 K := ⟨_, _, rfl, rfl, by decide, h⟩
theorem gs_combined (h : wpEs C es loc hp fun vs hp2 => C "Counter.combined" (sAV j :: vs) hp2 K) : ∃ Cn at_, sAV j = .inst Cn at_ ∧ aGet at_ "combined" = none ∧ (Cn, "combined") ∈ methNames ∧ wpEs C es loc hp fun vs hp2 => C (Cn ++ "." ++ "combined") (sAV j :: vs) hp2 K := ⟨_, _, rfl, rfl, by decide, h⟩
theorem gs_count (h : wpEs C es loc hp fun vs hp2 => C "Counter.count" (sAV j :: vs) hp2 K) : ∃ Cn at_, sAV j = .inst Cn at_ ∧ aGet at_ "count" = none ∧ (Cn, "count") ∈ methNames ∧ wpEs C es loc hp fun vs hp2 => C (Cn ++ "." ++ "count") (sAV j :: vs) hp2 K := ⟨_, _, rfl, rfl, by decide, h⟩
end
end Mine
end
local macro_rules | `(tactic| walk_at "lk") => `(tactic| ((repeat (with_reducible refine (Mine.lk_ne (by decide)).trans ?_)); (first | with_reducible exact Mine.lk_here | assumption | exact Mine.lk_here)))
local macro_rules | `(tactic| walk_at "g1") => `(tactic| with_reducible first
  | refine Mine.g_var (by walk_at "lk") ?_
  | (refine' Mine.g_ga ?hq ?_; (case hq => first | exact Mine.sA_circuit | exact Mine.sA_known | exact Mine.sA_plans | exact Mine.sA_supports | exact Mine.sA_inputs | exact Mine.cA_kinds | exact Mine.cA_parts | exact Mine.cA_known))
  | refine Mine.g_a2 (by decide) ?_
  | refine Mine.g_a3 (by decide) ?_
  | refine Mine.g_a4 (by decide) ?_
  | apply Mine.g_cons
  | apply Mine.g_nilB
  | apply Mine.g_next
  | apply Mine.g_sret
  | apply Mine.g_scont
  | apply Mine.g_assign
  | apply Mine.g_assigns
  | apply Mine.g_setIdx
  | apply Mine.g_expr
  | apply Mine.g_eN
  | apply Mine.g_eI
  | apply Mine.g_iff
  | apply Mine.g_for
  | apply Mine.g_while
  | apply Mine.g_ret
  | apply Mine.g_cont
  | apply Mine.g_int
  | apply Mine.g_str
  | apply Mine.g_bool
  | apply Mine.g_bin
  | apply Mine.g_neg
  | apply Mine.g_negK
  | apply Mine.g_not
  | apply Mine.g_and
  | apply Mine.g_or
  | apply Mine.g_tv
  | apply Mine.g_cmp
  | apply Mine.g_ite
  | apply Mine.g_attr
  | apply Mine.g_idx
  | apply Mine.g_tup
  | apply Mine.g_list
  | apply Mine.g_flist
  | apply Mine.g_l0
  | apply Mine.g_l1
  | apply Mine.g_l2
  | apply Mine.g_l3
  | apply Mine.g_l4
  | apply Mine.g_dict1
  | apply Mine.g_d1
  | apply Mine.g_comp
  | apply Mine.g_compIf
  | apply Mine.g_bi
  | apply Mine.g_call
  | apply Mine.g_meth
  | apply Mine.g_lm
  | apply Mine.g_nil
  | apply Mine.g_es
  | apply Mine.g_add
  | apply Mine.g_sub
  | apply Mine.g_eqi
  | apply Mine.g_eqs
  | apply Mine.g_eqb
  | apply Mine.g_nei
  | apply Mine.g_nes
  | apply Mine.g_lt
  | apply Mine.g_gt'
  | apply Mine.g_le
  | apply Mine.g_abs
  | apply Mine.gc_kind
  | apply Mine.gc_parts
  | apply Mine.gc_new_gate
  | apply Mine.gc_new_input
  | apply Mine.gc_all_of
  | apply Mine.gc_both
  | apply Mine.gc_either
  | apply Mine.gc_implies
  | apply Mine.gc_iff
  | apply Mine.gc_unlike
  | apply Mine.gc_choose
  | apply Mine.gs_below
  | apply Mine.gs_support
  | apply Mine.gs_gathered
  | apply Mine.gs_turned
  | apply Mine.gs_settled
  | apply Mine.gs_groups
  | apply Mine.gs_pick
  | apply Mine.gs_plan
  | apply Mine.gs_is_ready
  | apply Mine.gs_own
  | apply Mine.gs_combined
  | apply Mine.gs_count
)
local macro_rules | `(tactic| walk_at "go") => `(tactic| repeat walk_at "g1")
section
set_option Elab.async false
set_option maxRecDepth 100000
set_option linter.unusedVariables false
set_option linter.unusedSimpArgs false
namespace Mine

theorem parts_ok {i : CI} {C : Circ} {hp : HP} {g : Int} {q : String × List Int} {K : AV → HP → Prop} {n : Nat} (hg : C.gs[g.natAbs]? = some q) (hs : small g.natAbs) (hK : K (.tup (q.2.map .int)) (putC i C hp)) :
    Call P (n + 1) "Circuit.parts" [cAV i, .int g] (putC i C hp) K := by
  refine call2 rfl ?_
  unfold b_Circuit_parts
  walk_at "go"
  refine g_gi (v := .tup (q.2.map .int)) ((ix_rl putC2).trans (seqGet_nat (by rw [List.getElem?_map, hg]; rfl))) hs ?_
  walk_at "go"
  exact g_fin0 hK

theorem new_gate_ok {i : CI} {C : Circ} {hp : HP} {k : String} {ps : List Int} {K : AV → HP → Prop} {n : Nat} (hsz : C.gs.length < SZ) (hK : K (.int C.gs.length) (putC i { C with gs := C.gs ++ [(k, ps)] } hp)) :
    Call P (n + 1) "Circuit.new_gate" [cAV i, .str k, .tup (ps.map .int)] (putC i C hp) K := by
  refine call3 rfl ?_
  unfold b_Circuit_new_gate
  walk_at "go"
  refine g_tappend putC1 ?_
  walk_at "go"
  refine g_append putC1 (by rw [List.length_map]; exact Nat.le_of_lt hsz) ?_
  walk_at "go"
  refine g_tappend ((HP.set_ne (Ne.symm i.h12)).trans putC2) ?_
  walk_at "go"
  refine g_append ((HP.set_ne (Ne.symm i.h12)).trans putC2) (by rw [List.length_map]; exact Nat.le_of_lt hsz) ?_
  have e : ((putC i C hp).set i.a1 (.list ((C.gs.map fun g => AV.str g.1) ++ [.str k]))).set i.a2 (.list ((C.gs.map fun g => AV.tup (g.2.map .int)) ++ [.tup (ps.map .int)])) = putC i { C with gs := C.gs ++ [(k, ps)] } hp := by
    rw [← putC_gs (gs := C.gs ++ [(k, ps)])]
    unfold oKinds oParts
    rw [List.map_append, List.map_append]; rfl
  rw [e]
  walk_at "go"
  refine g_len (ln_r putC1) (by rw [List.length_map, List.length_append]; exact hsz) ?_
  walk_at "go"
  refine g_fin0 ?_
  rw [List.length_map, List.length_append]
  have e2 : ((C.gs.length + [(k, ps)].length : Nat) : Int) - 1 = C.gs.length := by simp
  rw [e2]; exact hK

theorem new_input_ok {i : CI} {C : Circ} {hp : HP} {K : AV → HP → Prop} {n : Nat} (hsz : C.gs.length < SZ) (hK : K (.int C.gs.length) (putC i { C with gs := C.gs ++ [("input", [])] } hp)) :
    Call P (n + 2) "Circuit.new_input" [cAV i] (putC i C hp) K := by
  refine call1 rfl ?_
  unfold b_Circuit_new_input
  walk_at "go"
  exact new_gate_ok (ps := []) hsz (g_sret (g_fin0 hK))

noncomputable def allScan : List Int → List Int → Option (List Int)
  | found, [] => some found
  | found, g :: r => if g = -1 ∨ -g ∈ found then none else allScan (if g = 1 then found else if g ∈ found then found else found ++ [g]) r
noncomputable def allOf (C : Circ) (gs : List Int) : Circ × Int := match allScan [] gs with
  | none => (C, -1)
  | some found =>
    if (srt found).length < 2 then (C, match srt found with | [p] => p | _ => 1)
    else match aGet C.known (srt found) with
      | some g => (C, g)
      | none => ({ gs := C.gs ++ [("and", srt found)], known := C.known ++ [(srt found, (C.gs.length : Int))] }, C.gs.length)

theorem allScan_len : ∀ {gs found out : List Int}, allScan found gs = some out → out.length ≤ found.length + gs.length
  | [], found, out, h => by cases h; simp
  | g :: r, found, out, h => by
    unfold allScan at h
    split at h
    · cases h
    · have := allScan_len h
      split at this <;> try split at this
      all_goals simp at this ⊢; omega

theorem aGet_none {K V : Type} [DecidableEq K] : ∀ {kvs : List (K × V)} {k : K}, aGet kvs k = none → ∀ x, (k, x) ∉ kvs
  | [], k, _, x => by simp
  | kv :: r, k, h, x => by
    unfold aGet at h
    rw [List.find?_cons] at h
    by_cases e : kv.1 = k
    · simp [e] at h
    · simp only [e, decide_false] at h
      intro hm
      rcases List.mem_cons.mp hm with q | q
      · exact e (by rw [← q])
      · exact aGet_none (kvs := r) h x q
theorem aGet_mem {K V : Type} [DecidableEq K] : ∀ {kvs : List (K × V)} {k : K} {x : V}, aGet kvs k = some x → (k, x) ∈ kvs
  | [], k, x, h => by cases h
  | kv :: r, k, x, h => by
    unfold aGet at h
    rw [List.find?_cons] at h
    by_cases e : kv.1 = k
    · simp [e] at h; rw [← h, ← e]; exact List.mem_cons_self
    · simp only [e, decide_false] at h
      exact List.mem_cons_of_mem _ (aGet_mem (kvs := r) h)
theorem aPut_new {K V : Type} [DecidableEq K] {kvs : List (K × V)} {k : K} {v : V} (h : ∀ x, (k, x) ∉ kvs) : aPut kvs k v = kvs ++ [(k, v)] := by
  unfold aPut
  rw [if_neg]
  rw [List.any_eq_true]
  rintro ⟨x, hx, e⟩
  exact h x.2 (by rw [← of_decide_eq_true e]; exact hx)
theorem aGet_put {K V : Type} [DecidableEq K] : ∀ {kvs : List (K × V)} {k : K} {v : V}, aGet (aPut kvs k v) k = some v := by
  intro kvs k v
  unfold aPut
  split
  · rename_i h
    induction kvs with
    | nil => simp at h
    | cons kv r ih =>
      unfold aGet at ih ⊢
      rw [List.map_cons, List.find?_cons]
      by_cases e : kv.1 = k
      · simp [e]
      · simp only [e, if_false, decide_false]
        exact ih (by simpa [e] using h)
  · rename_i h
    induction kvs with
    | nil => simp [aGet]
    | cons kv r ih =>
      unfold aGet at ih ⊢
      rw [List.cons_append, List.find?_cons]
      have e : ¬ kv.1 = k := fun e => h (by simp [e])
      simp only [e, decide_false]
      exact ih (fun q => h (by simp at q ⊢; exact .inr q))

theorem all_of_ok {i : CI} {C : Circ} {hp : HP} {v : AV} {gs : List Int} {K : AV → HP → Prop} {n : Nat} (hv : itemsOf v = some (gs.map .int)) (h64 : gs.length < 64) (hk : C.known.length < SZ) (hsz : C.gs.length < SZ)
    (hK : K (.int (allOf C gs).2) (putC i (allOf C gs).1 hp)) : Call P (n + 2) "Circuit.all_of" [cAV i, v] (putC i C hp) K := by
  refine call2 rfl ?_
  unfold b_Circuit_all_of
  walk_at "go"
  refine g_dict0 fun a ha => ?_
  walk_at "go"
  obtain ⟨h1, h2, h3, h4⟩ := putC_fresh ha
  rw [show (if false = true then AObj.dT [] else .dI []) = .dI (trues []) from rfl, putC_comm h1 h2 h3]
  have sub : ∀ C' l, HP.Sub (putC i C' hp) (putC i C' (hp.set a (.dI l))) := fun C' l => putC_sub (HP.Sub.set h4)
  have haf : ∀ C' l, (putC i C' (hp.set a (.dI l))) a = some (.dI l) := fun C' l => by rw [← putC_comm h1 h2 h3, HP.set_self]
  have hset : ∀ C' l l', (putC i C' (hp.set a (.dI l))).set a (.dI l') = putC i C' (hp.set a (.dI l')) := fun C' l l' => by rw [putC_comm h1 h2 h3, set_set]
  refine ⟨_, hv, ?_⟩
  refine wpFor_ind (fun xs l h => ∃ found rest, xs = rest.map .int ∧ l "self" = some (cAV i) ∧ l "found" = some (.ref a) ∧ h = putC i C (hp.set a (.dI (trues found))) ∧ allScan found rest = allScan [] gs ∧ found.length + rest.length ≤ gs.length)
    (fun l h hI => ?_) (fun Q x xs l h hQ hI => ?_) ⟨[], gs, rfl, by walk_at "lk", by walk_at "lk", rfl, rfl, by simp⟩
  · obtain ⟨found, rest, e, l1, l2, rfl, hscan, hfl⟩ := hI
    have er : rest = [] := by cases rest with | nil => rfl | cons _ _ => cases e
    subst er
    have hscan' : allScan [] gs = some found := hscan.symm
    have hlen := allScan_len hscan'
    have hl64 : found.length < 64 := Nat.lt_of_le_of_lt (by simpa using hlen) h64
    have hsl : (srt found).length = found.length := (srt_perm found).length_eq
    have hz : (srt found).length ≤ SZ := by rw [hsl]; exact Nat.le_trans (Nat.le_of_lt hl64) (Nat.le_of_ble_eq_true rfl)
    have hzi : ((srt found).map AV.int).length ≤ SZ := by rw [List.length_map]; exact hz
    unfold allOf at hK
    rw [hscan'] at hK
    dsimp only at hK
    walk_at "go"
    refine g_sorted (ko_r (haf _ _)) (by rw [keys_trues]; exact hl64) fun out p1 p2 => ?_
    rw [keys_trues] at p1
    rw [srt_eq p1 p2]
    walk_at "go"
    refine g_tuple al_fl hzi ?_
    walk_at "go"
    refine g_len ln_tp hzi ?_
    walk_at "go"
    rw [List.length_map]
    by_cases hc : (srt found).length < 2
    · rw [if_pos hc] at hK
      refine g_dpos (by exact_mod_cast hc) ?_
      walk_at "go"
      refine g_len ln_tp hzi ?_
      walk_at "go"
      rw [List.length_map]
      cases hs : srt found with
      | nil =>
        rw [hs] at hK
        refine g_dneg (by decide) ?_
        walk_at "go"
        exact g_fin (sub C _) hK
      | cons p r =>
        cases r with
        | nil =>
          rw [hs] at hK
          refine g_dpos rfl ?_
          walk_at "go"
          refine g_gi (v := .int p) rfl (by unfold small; decide) ?_
          walk_at "go"
          exact g_fin (sub C _) hK
        | cons _ _ => rw [hs] at hc; simp at hc; omega
    · rw [if_neg hc] at hK
      refine g_dneg (by exact_mod_cast hc) ?_
      walk_at "go"
      cases hg : aGet C.known (srt found) with
      | none =>
        rw [hg] at hK
        have hni : hasKey (.tup ((srt found).map .int)) (.ref i.a3) (putC i C (hp.set a (.dI (trues found)))) = some false := by
          rw [hk_rT putC3 (intsOf_map _)]
          refine congrArg some (decide_eq_false fun hm => ?_)
          obtain ⟨y, hy, e⟩ := List.mem_map.mp hm
          obtain ⟨z, hz, rfl⟩ := List.mem_map.mp hy
          exact aGet_none hg z.2 (by rw [← e]; exact hz)
        refine g_nin hni ?_
        walk_at "go"
        refine g_pos rfl ?_
        walk_at "go"
        refine new_gate_ok hsz ?_
        walk_at "go"
        refine g_setT putC3 (intsOf_map _) (by rw [List.length_map]; exact Nat.le_of_lt hk) ?_
        have e : aPut (C.known.map fun kv => (kv.1, AV.int kv.2)) (srt found) (.int (C.gs.length : Int)) = ((C.known ++ [(srt found, (C.gs.length : Int))]).map fun kv => (kv.1, AV.int kv.2)) := by
          rw [aPut_new, List.map_append]; rfl
          intro x hx
          obtain ⟨y, hy, e⟩ := List.mem_map.mp hx
          have e1 : y.1 = srt found := congrArg Prod.fst e
          exact aGet_none hg y.2 (by rw [← e1]; exact hy)
        rw [e]
        rw [show (putC i { C with gs := C.gs ++ [("and", srt found)] } (hp.set a (.dI (trues found)))).set i.a3 (.dT ((C.known ++ [(srt found, (C.gs.length : Int))]).map fun kv => (kv.1, AV.int kv.2))) =
          putC i { gs := C.gs ++ [("and", srt found)], known := C.known ++ [(srt found, (C.gs.length : Int))] } (hp.set a (.dI (trues found))) from putC_known (C := { C with gs := C.gs ++ [("and", srt found)] })]
        walk_at "go"
        refine g_gt (v := .int C.gs.length) ?_ ?_
        rotate_left
        · walk_at "go"
          exact g_fin (sub _ _) hK
        rw [ix_rT putC3 (intsOf_map _), ← e]
        exact aGet_put
      | some g =>
        rw [hg] at hK
        have hni : hasKey (.tup ((srt found).map .int)) (.ref i.a3) (putC i C (hp.set a (.dI (trues found)))) = some true := by
          rw [hk_rT putC3 (intsOf_map _)]
          exact congrArg some (decide_eq_true (List.mem_map.mpr ⟨_, List.mem_map_of_mem (aGet_mem hg), rfl⟩))
        refine g_nin hni ?_
        walk_at "go"
        refine g_nega rfl ?_
        walk_at "go"
        refine g_gt (v := .int g) ?_ ?_
        rotate_left
        · walk_at "go"
          exact g_fin (sub _ _) hK
        rw [ix_rT putC3 (intsOf_map _)]
        rw [aGet_map, hg]; rfl
  · obtain ⟨found, rest, e, l1, l2, rfl, hscan, hfl⟩ := hI
    cases rest with
    | nil => cases e
    | cons g rest =>
    simp only [List.map_cons, List.cons.injEq] at e
    obtain ⟨rfl, rfl⟩ := e
    refine ⟨_, rfl, ?_⟩
    rw [allScan] at hscan
    simp only [List.length_cons] at hfl
    have hin : ∀ z : Int, hasKey (.int z) (.ref a) (putC i C (hp.set a (.dI (trues found)))) = some (decide (z ∈ found)) := fun z => by
      rw [hk_r (haf _ _)]; unfold inK; rw [keys_trues]
    unfold allOf at hK
    walk_at "go"
    by_cases hg1 : g = -1
    · rw [if_pos (.inl hg1)] at hscan
      rw [← hscan] at hK
      refine g_dpos hg1 ?_
      walk_at "go"
      refine g_pos rfl ?_
      walk_at "go"
      exact g_fin (sub C _) hK
    · refine g_dneg hg1 ?_
      walk_at "go"
      refine g_in (hin _) ?_
      walk_at "go"
      by_cases hg2 : -g ∈ found
      · rw [if_pos (.inr hg2)] at hscan
        rw [← hscan] at hK
        refine g_dpos hg2 ?_
        walk_at "go"
        exact g_fin (sub C _) hK
      · rw [if_neg (by rintro (q | q); exact hg1 q; exact hg2 q)] at hscan
        refine g_dneg hg2 ?_
        walk_at "go"
        by_cases hg3 : g = 1
        · rw [if_pos hg3] at hscan
          refine g_dneg (fun q => q hg3) ?_
          walk_at "go"
          exact ⟨_, HP.Sub.refl _, hQ _ _ ⟨found, rest, rfl, by walk_at "lk", by walk_at "lk", rfl, hscan, by exact Nat.le_of_lt hfl⟩⟩
        · rw [if_neg hg3] at hscan
          refine g_dpos hg3 ?_
          walk_at "go"
          refine g_setI (haf _ _) (by rw [trues_len]; exact Nat.le_trans (by omega) (Nat.le_of_ble_eq_true rfl : 64 ≤ SZ)) ?_
          walk_at "go"
          rw [aPut_trues, hset]
          refine ⟨_, HP.Sub.refl _, hQ _ _ ⟨_, rest, rfl, by walk_at "lk", by walk_at "lk", rfl, hscan, ?_⟩⟩
          split
          · exact Nat.le_of_lt hfl
          · rw [List.length_append, List.length_singleton]; exact by rw [Nat.add_right_comm]; exact hfl
end Mine
end
section
set_option Elab.async false
set_option maxRecDepth 100000
set_option linter.unusedVariables false
set_option linter.unusedSimpArgs false
namespace Mine

noncomputable def room (C : Circ) (k : Nat) : Prop := C.gs.length + k ≤ SZ ∧ C.known.length + k ≤ SZ
theorem room.less {C : Circ} {k m : Nat} (h : room C k) (e : m ≤ k) : room C m := ⟨by have := h.1; exact Nat.le_trans (Nat.add_le_add_left e _) this, by have := h.2; exact Nat.le_trans (Nat.add_le_add_left e _) this⟩
theorem room.lt {C : Circ} {k : Nat} (h : room C (k + 1)) : C.gs.length < SZ ∧ C.known.length < SZ := ⟨by have := h.1; exact Nat.lt_of_le_of_lt (Nat.le_add_right _ _) this, by have := h.2; exact Nat.lt_of_le_of_lt (Nat.le_add_right _ _) this⟩
theorem room_allOf {C : Circ} {k : Nat} {gs : List Int} (h : room C (k + 1)) : room (allOf C gs).1 k := by
  unfold allOf
  split
  · exact h.less (by exact Nat.le_add_right _ _)
  · split
    · exact h.less (by exact Nat.le_add_right _ _)
    · split
      · exact h.less (by omega)
      · obtain ⟨h1, h2⟩ := h
        constructor
        · simp; exact by rw [Nat.add_right_comm]; exact h1
        · simp; exact by rw [Nat.add_right_comm]; exact h2

noncomputable def impliesF (C : Circ) (a b : Int) : Circ × Int := ((allOf C [a, -b]).1, -(allOf C [a, -b]).2)
noncomputable def eitherF (C : Circ) (a b : Int) : Circ × Int := ((allOf C [-a, -b]).1, -(allOf C [-a, -b]).2)
noncomputable def iffF (C : Circ) (a b : Int) : Circ × Int := allOf (impliesF (impliesF C a b).1 b a).1 [(impliesF C a b).2, (impliesF (impliesF C a b).1 b a).2]
noncomputable def unlikeF (C : Circ) (a b : Int) : Circ × Int := ((iffF C a b).1, -(iffF C a b).2)
noncomputable def chooseF (C : Circ) (c a b : Int) : Circ × Int := allOf (impliesF (impliesF C c a).1 (-c) b).1 [(impliesF C c a).2, (impliesF (impliesF C c a).1 (-c) b).2]

theorem item2 {a b : Int} : itemsOf (.tup [.int a, .int b]) = some ([a, b].map .int) := rfl

section
variable {i : CI} {C : Circ} {hp : HP} {K : AV → HP → Prop} {n : Nat} {a b c : Int}

theorem both_ok (hr : room C 1) (hK : K (.int (allOf C [a, b]).2) (putC i (allOf C [a, b]).1 hp)) : Call P (n + 3) "Circuit.both" [cAV i, .int a, .int b] (putC i C hp) K := by
  refine call3 rfl ?_
  unfold b_Circuit_both
  walk_at "go"
  refine all_of_ok (item2 (a := a) (b := b)) (Nat.le_of_ble_eq_true rfl) hr.lt.2 hr.lt.1 ?_
  walk_at "go"
  exact g_fin0 hK
theorem either_ok (hr : room C 1) (hK : K (.int (eitherF C a b).2) (putC i (eitherF C a b).1 hp)) : Call P (n + 3) "Circuit.either" [cAV i, .int a, .int b] (putC i C hp) K := by
  refine call3 rfl ?_
  unfold b_Circuit_either
  walk_at "go"
  refine all_of_ok (item2 (a := -a) (b := -b)) (Nat.le_of_ble_eq_true rfl) hr.lt.2 hr.lt.1 ?_
  walk_at "go"
  exact g_fin0 hK
theorem implies_ok (hr : room C 1) (hK : K (.int (impliesF C a b).2) (putC i (impliesF C a b).1 hp)) : Call P (n + 3) "Circuit.implies" [cAV i, .int a, .int b] (putC i C hp) K := by
  refine call3 rfl ?_
  unfold b_Circuit_implies
  walk_at "go"
  refine all_of_ok (item2 (a := a) (b := -b)) (Nat.le_of_ble_eq_true rfl) hr.lt.2 hr.lt.1 ?_
  walk_at "go"
  exact g_fin0 hK
theorem room_implies {k : Nat} (h : room C (k + 1)) : room (impliesF C a b).1 k := room_allOf h

theorem iff_ok (hr : room C 3) (hK : K (.int (iffF C a b).2) (putC i (iffF C a b).1 hp)) : Call P (n + 4) "Circuit.iff" [cAV i, .int a, .int b] (putC i C hp) K := by
  refine call3 rfl ?_
  unfold b_Circuit_iff
  walk_at "go"
  refine implies_ok (hr.less (by exact Nat.le_add_left _ _)) ?_
  walk_at "go"
  refine implies_ok ((room_implies hr).less (by exact Nat.le_add_left _ _)) ?_
  have r2 : room (impliesF (impliesF C a b).1 b a).1 1 := room_implies (room_implies hr)
  walk_at "go"
  refine all_of_ok item2 (Nat.le_of_ble_eq_true rfl) r2.lt.2 r2.lt.1 ?_
  walk_at "go"
  exact g_fin0 hK

theorem unlike_ok (hr : room C 3) (hK : K (.int (unlikeF C a b).2) (putC i (unlikeF C a b).1 hp)) : Call P (n + 5) "Circuit.unlike" [cAV i, .int a, .int b] (putC i C hp) K := by
  refine call3 rfl ?_
  unfold b_Circuit_unlike
  walk_at "go"
  refine iff_ok hr ?_
  walk_at "go"
  exact g_fin0 hK

theorem choose_ok (hr : room C 3) (hK : K (.int (chooseF C c a b).2) (putC i (chooseF C c a b).1 hp)) : Call P (n + 4) "Circuit.choose" [cAV i, .int c, .int a, .int b] (putC i C hp) K := by
  refine call4 rfl ?_
  unfold b_Circuit_choose
  walk_at "go"
  refine implies_ok (hr.less (by omega)) ?_
  walk_at "go"
  refine implies_ok ((room_implies hr).less (by omega)) ?_
  have r2 : room (impliesF (impliesF C c a).1 (-c) b).1 1 := room_implies (room_implies hr)
  walk_at "go"
  refine all_of_ok item2 (Nat.le_of_ble_eq_true rfl) r2.lt.2 r2.lt.1 ?_
  walk_at "go"
  exact g_fin0 hK

noncomputable def joinedF (C : Circ) (a b : Int) (way : Int) : Circ × Int :=
  if way = 0 then allOf C [a, b] else if way = 1 then eitherF C a b else if way = 2 then iffF C a b else unlikeF C a b
theorem joined_ok {way : Int} (hr : room C 3) (hK : K (.int (joinedF C a b way).2) (putC i (joinedF C a b way).1 hp)) : Call P (n + 6) "_law_joined" [cAV i, .int a, .int b, .int way] (putC i C hp) K := by
  refine call4 rfl ?_
  unfold b_law_joined
  unfold joinedF at hK
  walk_at "go"
  by_cases h0 : way = 0
  · rw [if_pos h0] at hK
    refine g_dpos h0 ?_
    walk_at "go"
    refine both_ok (hr.less (by exact Nat.le_add_left _ _)) ?_
    walk_at "go"
    exact g_fin0 hK
  · rw [if_neg h0] at hK
    refine g_dneg h0 ?_
    walk_at "go"
    by_cases h1 : way = 1
    · rw [if_pos h1] at hK
      refine g_dpos h1 ?_
      walk_at "go"
      refine either_ok (hr.less (by omega)) ?_
      walk_at "go"
      exact g_fin0 hK
    · rw [if_neg h1] at hK
      refine g_dneg h1 ?_
      walk_at "go"
      by_cases h2 : way = 2
      · rw [if_pos h2] at hK
        refine g_dpos h2 ?_
        walk_at "go"
        refine iff_ok hr ?_
        walk_at "go"
        exact g_fin0 hK
      · rw [if_neg h2] at hK
        refine g_dneg h2 ?_
        walk_at "go"
        refine unlike_ok hr ?_
        walk_at "go"
        exact g_fin0 hK

noncomputable def wayF (way : Int) (a b : Bool) : Bool := if way < 2 then (if way = 0 then a && b else a || b) else ((a == b) == decide (way = 2))
theorem way_ok {way : Int} {x y : Bool} (hK : K (.bool (wayF way x y)) hp) : Call P (n + 1) "_law_way" [.int way, .bool x, .bool y] hp K := by
  refine call3 rfl ?_
  unfold b_law_way
  unfold wayF at hK
  walk_at "go"
  by_cases h : way < 2
  · rw [if_pos h] at hK
    refine g_dpos h ?_
    walk_at "go"
    by_cases h0 : way = 0
    · rw [if_pos h0] at hK
      refine g_dpos h0 ?_
      walk_at "go"
      cases x with
      | false => refine g_nega rfl ?_; walk_at "go"; exact g_fin0 hK
      | true => refine g_pos rfl ?_; walk_at "go"; exact g_fin0 hK
    · rw [if_neg h0] at hK
      refine g_dneg h0 ?_
      walk_at "go"
      cases x with
      | false => refine g_nega rfl ?_; walk_at "go"; exact g_fin0 hK
      | true => refine g_pos rfl ?_; walk_at "go"; exact g_fin0 hK
  · rw [if_neg h] at hK
    refine g_dneg h ?_
    walk_at "go"
    have e : (x == y) = decide (x = y) := by cases x <;> cases y <;> rfl
    rw [e] at hK
    have e2 : ∀ b c : Bool, (b == c) = decide (b = c) := fun b c => by cases b <;> cases c <;> rfl
    rw [e2] at hK
    exact g_fin0 hK

theorem boolsOf_map : ∀ {bs : List Bool}, boolsOf (bs.map .bool) = some bs
  | [] => rfl
  | b :: bs => by rw [List.map_cons, boolsOf, boolsOf_map]; rfl
theorem many_ok {bs : List Bool} (hl : bs.length ≤ SZ) (hK : K (.int (bs.count true)) hp) : Call P (n + 1) "_law_many" [.fl (bs.map .bool)] hp K := by
  refine call1 rfl ?_
  unfold b_law_many
  walk_at "go"
  refine g_tcount ?_
  walk_at "go"
  refine g_count boolsOf_map hl ?_
  walk_at "go"
  exact g_fin0 hK
end
end Mine
end
section
set_option Elab.async false
set_option maxRecDepth 100000
set_option linter.unusedVariables false
set_option linter.unusedSimpArgs false
namespace Mine

abbrev Gates := List (String × List Int)
noncomputable def tabl {α : Type} (f : List α → String × List Int → α) (gs : Gates) : List α := gs.foldl (fun acc g => acc ++ [f acc g]) []

section
variable {α : Type} {f : List α → String × List Int → α}
theorem tabl_snoc (gs : Gates) (g : String × List Int) : tabl f (gs ++ [g]) = tabl f gs ++ [f (tabl f gs) g] := by
  unfold tabl; rw [List.foldl_append]; rfl
theorem snoc_ind {p : Gates → Prop} (h0 : p []) (h1 : ∀ gs g, p gs → p (gs ++ [g])) : ∀ gs, p gs := by
  intro gs
  have : ∀ r : Gates, p r.reverse := fun r => by
    induction r with
    | nil => exact h0
    | cons a r ih => rw [List.reverse_cons]; exact h1 _ _ ih
  have := this gs.reverse
  rwa [List.reverse_reverse] at this
theorem tabl_len (gs : Gates) : (tabl f gs).length = gs.length := by
  induction gs using snoc_ind with
  | h0 => rfl
  | h1 gs g ih => rw [tabl_snoc]; simp [ih]
theorem tabl_prefix (gs more : Gates) : tabl f gs <+: tabl f (gs ++ more) := by
  induction more using snoc_ind with
  | h0 => simp
  | h1 more g ih => rw [← List.append_assoc, tabl_snoc]; exact ih.trans (List.prefix_append _ _)
theorem tabl_stable {gs gs' : Gates} (h : gs <+: gs') {i : Nat} (hi : i < gs.length) : (tabl f gs')[i]? = (tabl f gs)[i]? := by
  obtain ⟨more, rfl⟩ := h
  obtain ⟨r, e⟩ := tabl_prefix (f := f) gs more
  rw [← e]
  rw [List.getElem?_append_left (by rw [tabl_len]; exact hi)]
theorem take_prefix (gs : Gates) (i : Nat) : gs.take i <+: gs := ⟨gs.drop i, List.take_append_drop i gs⟩
theorem tabl_get {gs : Gates} {i : Nat} {g : String × List Int} (h : gs[i]? = some g) : (tabl f gs)[i]? = some (f (tabl f (gs.take i)) g) := by
  have hi : i < gs.length := (List.getElem?_eq_some_iff.mp h).1
  have e : gs.take (i + 1) = gs.take i ++ [g] := by
    rw [List.take_add_one, h]; rfl
  rw [tabl_stable (take_prefix gs (i + 1)) (by rw [List.length_take]; exact Nat.lt_min.mpr ⟨Nat.lt_succ_self _, hi⟩), e, tabl_snoc]
  have hl : (tabl f (gs.take i)).length = i := by rw [tabl_len, List.length_take]; exact Nat.min_eq_left (Nat.le_of_lt hi)
  rw [List.getElem?_append_right (by exact Nat.le_of_eq hl), hl]
  simp
theorem tabl_take_get {gs : Gates} {i j : Nat} (h : j < i) (hi : i ≤ gs.length) : (tabl f (gs.take i))[j]? = (tabl f gs)[j]? :=
  (tabl_stable (take_prefix gs i) (by rw [List.length_take]; omega)).symm
theorem take_len {gs : Gates} {i : Nat} (hi : i ≤ gs.length) : (tabl f (gs.take i)).length = i := by rw [tabl_len, List.length_take]; exact Nat.min_eq_left hi
end

noncomputable def kM (l ks : List Int) : List Int := ks.foldl (fun acc k => if k ∈ acc then acc else acc ++ [k]) l
theorem mem_kM {x : Int} : ∀ {ks l : List Int}, x ∈ kM l ks ↔ x ∈ l ∨ x ∈ ks
  | [], l => by simp [kM]
  | k :: ks, l => by
    show x ∈ kM (if k ∈ l then l else l ++ [k]) ks ↔ _
    rw [mem_kM]
    split
    · rename_i h
      simp only [List.mem_cons]
      constructor
      · rintro (q | q); exact .inl q; exact .inr (.inr q)
      · rintro (q | rfl | q); exact .inl q; exact .inl h; exact .inr q
    · simp only [List.mem_append, List.mem_cons, List.not_mem_nil, or_false]
      constructor
      · rintro ((q | q) | q); exact .inl q; exact .inr (.inl q); exact .inr (.inr q)
      · rintro (q | q | q); exact .inl (.inl q); exact .inl (.inr q); exact .inr q
theorem nodup_kM : ∀ {ks l : List Int}, l.Nodup → (kM l ks).Nodup
  | [], l, h => h
  | k :: ks, l, h => by
    show (kM (if k ∈ l then l else l ++ [k]) ks).Nodup
    refine nodup_kM ?_
    split
    · exact h
    · rename_i hk
      rw [List.nodup_append]
      exact ⟨h, by simp, fun a ha b hb e => by simp at hb; subst hb; subst e; exact hk ha⟩

/-- the union over a gate's parts -/
noncomputable def unionF (F : Nat → List Int) (l : List Int) (ps : List Int) : List Int := ps.foldl (fun l p => kM l (F p.natAbs)) l
theorem mem_unionF {F : Nat → List Int} {x : Int} : ∀ {ps l : List Int}, x ∈ unionF F l ps ↔ x ∈ l ∨ ∃ p ∈ ps, x ∈ F p.natAbs
  | [], l => by simp [unionF]
  | p :: ps, l => by
    show x ∈ unionF F (kM l (F p.natAbs)) ps ↔ _
    rw [mem_unionF, mem_kM]
    simp only [List.mem_cons, exists_eq_or_imp, or_assoc]
theorem nodup_unionF {F : Nat → List Int} : ∀ {ps l : List Int}, l.Nodup → (unionF F l ps).Nodup
  | [], l, h => h
  | p :: ps, l, h => nodup_unionF (ps := ps) (nodup_kM h)
theorem unionF_congr {F F' : Nat → List Int} : ∀ {ps l : List Int}, (∀ p ∈ ps, F p.natAbs = F' p.natAbs) → unionF F l ps = unionF F' l ps
  | [], l, h => rfl
  | p :: ps, l, h => by
    show unionF F (kM l (F p.natAbs)) ps = unionF F' (kM l (F' p.natAbs)) ps
    rw [h p List.mem_cons_self]
    exact unionF_congr fun q hq => h q (List.mem_cons_of_mem _ hq)

noncomputable def fV (ρ : Int → Bool) (acc : List Bool) (g : String × List Int) : Bool :=
  if g.1 = "input" then ρ acc.length else if g.1 = "and" then g.2.all (fun p => (acc[p.natAbs]?.getD false) == decide (0 < p)) else g.1 == "true"
noncomputable def fS (acc : List (List Int)) (g : String × List Int) : List Int :=
  if g.1 = "input" then [(acc.length : Int)] else if g.1 = "and" then unionF (fun j => acc[j]?.getD []) [] g.2 else []
noncomputable def fB (acc : List (List Int)) (g : String × List Int) : List Int :=
  if g.1 = "and" then unionF (fun j => acc[j]?.getD []) [(acc.length : Int)] g.2 else [(acc.length : Int)]
noncomputable def V (gs : Gates) (ρ : Int → Bool) (i : Nat) : Bool := (tabl (fV ρ) gs)[i]?.getD false
noncomputable def Lit (gs : Gates) (ρ : Int → Bool) (p : Int) : Bool := V gs ρ p.natAbs == decide (0 < p)
noncomputable def SU (gs : Gates) (i : Nat) : List Int := (tabl fS gs)[i]?.getD []
noncomputable def BE (gs : Gates) (i : Nat) : List Int := (tabl fB gs)[i]?.getD []

noncomputable def PartsOk (i : Nat) (ps : List Int) : Prop := (∀ p ∈ ps, 2 ≤ p.natAbs ∧ p.natAbs < i) ∧ ps.Nodup ∧ (∀ p ∈ ps, -p ∉ ps) ∧ 2 ≤ ps.length
structure WG (gs : Gates) : Prop where
  g0 : gs[0]? = some ("", [])
  g1 : gs[1]? = some ("true", [])
  gate : ∀ i g, gs[i]? = some g → 2 ≤ i → g = ("input", []) ∨ (g.1 = "and" ∧ PartsOk i g.2)
noncomputable def lit (gs : Gates) (p : Int) : Prop := 1 ≤ p.natAbs ∧ p.natAbs < gs.length

section
variable {gs gs' : Gates} {i : Nat} {ρ ρ' : Int → Bool} {g : String × List Int} {ps : List Int} {p : Int}

theorem V_stable (h : gs <+: gs') (hi : i < gs.length) : V gs' ρ i = V gs ρ i := by unfold V; rw [tabl_stable h hi]
theorem SU_stable (h : gs <+: gs') (hi : i < gs.length) : SU gs' i = SU gs i := by unfold SU; rw [tabl_stable h hi]
theorem BE_stable (h : gs <+: gs') (hi : i < gs.length) : BE gs' i = BE gs i := by unfold BE; rw [tabl_stable h hi]
theorem Lit_stable (h : gs <+: gs') (hi : lit gs p) : Lit gs' ρ p = Lit gs ρ p := by unfold Lit; rw [V_stable h hi.2]
theorem lit.mono (h : gs <+: gs') (hi : lit gs p) : lit gs' p := ⟨hi.1, Nat.lt_of_lt_of_le hi.2 h.length_le⟩
theorem lit.neg (hi : lit gs p) : lit gs (-p) := by unfold lit at *; rwa [Int.natAbs_neg]
theorem Lit_neg (hi : lit gs p) : Lit gs ρ (-p) = !Lit gs ρ p := by
  unfold Lit
  rw [Int.natAbs_neg]
  have h1 := hi.1
  by_cases h : 0 < p
  · have h2 : ¬ 0 < -p := by omega
    rw [decide_eq_true h, decide_eq_false h2]
    cases V gs ρ p.natAbs <;> rfl
  · have h2 : 0 < -p := by omega
    rw [decide_eq_false h, decide_eq_true h2]
    cases V gs ρ p.natAbs <;> rfl

theorem V_input (h : gs[i]? = some ("input", ps)) : V gs ρ i = ρ i := by
  have hi : i < gs.length := (List.getElem?_eq_some_iff.mp h).1
  unfold V; rw [tabl_get h]; simp [fV, take_len (Nat.le_of_lt hi)]
theorem V_and (h : gs[i]? = some ("and", ps)) (hp : ∀ p ∈ ps, p.natAbs < i) : V gs ρ i = ps.all (Lit gs ρ) := by
  have hi : i < gs.length := (List.getElem?_eq_some_iff.mp h).1
  unfold V; rw [tabl_get h]
  simp only [fV, Option.getD_some]
  rw [if_neg (by decide), if_pos trivial]
  rw [Bool.eq_iff_iff, List.all_eq_true, List.all_eq_true]
  constructor
  · intro q x hx
    have := q x hx
    rw [tabl_take_get (hp x hx) (Nat.le_of_lt hi)] at this
    exact this
  · intro q x hx
    rw [tabl_take_get (hp x hx) (Nat.le_of_lt hi)]
    exact q x hx
theorem V_true (h : gs[i]? = some ("true", ps)) : V gs ρ i = true := by
  unfold V; rw [tabl_get h]; simp [fV]
theorem SU_input (h : gs[i]? = some ("input", ps)) : SU gs i = [(i : Int)] := by
  have hi : i < gs.length := (List.getElem?_eq_some_iff.mp h).1
  unfold SU; rw [tabl_get h]; simp [fS, take_len (Nat.le_of_lt hi)]
theorem SU_and (h : gs[i]? = some ("and", ps)) (hp : ∀ p ∈ ps, p.natAbs < i) : SU gs i = unionF (SU gs) [] ps := by
  have hi : i < gs.length := (List.getElem?_eq_some_iff.mp h).1
  rw [SU, tabl_get h]
  simp only [fS, Option.getD_some]
  rw [if_neg (by decide), if_pos trivial]
  refine unionF_congr fun p hq => ?_
  rw [tabl_take_get (hp p hq) (Nat.le_of_lt hi)]; rfl
theorem SU_true (h : gs[i]? = some ("true", ps)) : SU gs i = [] := by
  unfold SU; rw [tabl_get h]; simp [fS]
theorem BE_and (h : gs[i]? = some ("and", ps)) (hp : ∀ p ∈ ps, p.natAbs < i) : BE gs i = unionF (BE gs) [(i : Int)] ps := by
  have hi : i < gs.length := (List.getElem?_eq_some_iff.mp h).1
  rw [BE, tabl_get h]
  simp only [fB, Option.getD_some, take_len (Nat.le_of_lt hi)]
  rw [if_pos trivial]
  refine unionF_congr fun p hq => ?_
  rw [tabl_take_get (hp p hq) (Nat.le_of_lt hi)]; rfl
theorem BE_leaf (h : gs[i]? = some g) (hg : g.1 ≠ "and") : BE gs i = [(i : Int)] := by
  have hi : i < gs.length := (List.getElem?_eq_some_iff.mp h).1
  rw [BE, tabl_get h]
  simp only [fB, Option.getD_some, take_len (Nat.le_of_lt hi)]
  rw [if_neg hg]

inductive Kind (gs : Gates) (i : Nat) : Prop
  | tru : i = 1 → gs[i]? = some ("true", []) → Kind gs i
  | inp : 2 ≤ i → gs[i]? = some ("input", []) → Kind gs i
  | con (ps : List Int) : 2 ≤ i → gs[i]? = some ("and", ps) → PartsOk i ps → Kind gs i
theorem WG.kind (w : WG gs) (h1 : 1 ≤ i) (h2 : i < gs.length) : Kind gs i := by
  by_cases e : i = 1
  · subst e; exact .tru rfl w.g1
  · have h2' : 2 ≤ i := by exact Nat.lt_of_le_of_ne h1 (Ne.symm e)
    have hg : gs[i]? = some gs[i] := List.getElem?_eq_getElem h2
    rcases w.gate i _ hg h2' with q | ⟨q1, q2⟩
    · rw [q] at hg; exact .inp h2' hg
    · refine .con gs[i].2 h2' ?_ q2
      rw [hg, ← q1]

theorem SU_nodup (w : WG gs) (h1 : 1 ≤ i) (h2 : i < gs.length) : (SU gs i).Nodup := by
  cases w.kind h1 h2 with
  | tru _ h => rw [SU_true h]; exact List.nodup_nil
  | inp _ h => rw [SU_input h]; simp
  | con ps _ h q => rw [SU_and h fun p hp => (q.1 p hp).2]; exact nodup_unionF List.nodup_nil
theorem BE_nodup (w : WG gs) (h1 : 1 ≤ i) (h2 : i < gs.length) : (BE gs i).Nodup := by
  cases w.kind h1 h2 with
  | tru _ h => rw [BE_leaf h (by decide)]; simp
  | inp _ h => rw [BE_leaf h (by decide)]; simp
  | con ps _ h q => rw [BE_and h fun p hp => (q.1 p hp).2]; exact nodup_unionF (by simp)

/-- what a gate says depends on its support alone -/
theorem V_dep (w : WG gs) : ∀ (i : Nat), 1 ≤ i → i < gs.length → (∀ x ∈ SU gs i, ρ x = ρ' x) → V gs ρ i = V gs ρ' i := by
  intro i
  induction i using Nat.strongRecOn with
  | ind i ih =>
    intro h1 h2 hd
    cases w.kind h1 h2 with
    | tru _ h => rw [V_true h, V_true h]
    | inp _ h => rw [V_input h, V_input h]; exact hd _ (by rw [SU_input h]; simp)
    | con ps _ h q =>
      have hp : ∀ p ∈ ps, p.natAbs < i := fun p hp => (q.1 p hp).2
      rw [V_and h hp, V_and h hp]
      rw [Bool.eq_iff_iff, List.all_eq_true, List.all_eq_true]
      have e : ∀ p ∈ ps, Lit gs ρ p = Lit gs ρ' p := fun p hq => by
        unfold Lit
        rw [ih p.natAbs (hp p hq) (by have := (q.1 p hq).1; exact Nat.le_of_lt this) (by have := hp p hq; exact Nat.lt_trans this h2) fun x hx => hd x (by
          rw [SU_and h hp, mem_unionF]; exact .inr ⟨p, hq, hx⟩)]
      constructor
      · intro z x hx; rw [← e x hx]; exact z x hx
      · intro z x hx; rw [e x hx]; exact z x hx
theorem Lit_dep (w : WG gs) (hl : lit gs p) (hd : ∀ x ∈ SU gs p.natAbs, ρ x = ρ' x) : Lit gs ρ p = Lit gs ρ' p := by
  unfold Lit; rw [V_dep w _ hl.1 hl.2 hd]

end
end Mine
end
section
set_option Elab.async false
set_option maxRecDepth 100000
set_option linter.unusedVariables false
set_option linter.unusedSimpArgs false
namespace Mine

section
variable {gs gs' : Gates} {i j : Nat} {ρ ρ' : Int → Bool} {ps : List Int} {p : Int}

theorem WG.len (w : WG gs) : 2 ≤ gs.length := by
  have := (List.getElem?_eq_some_iff.mp w.g1).1; exact this
theorem PartsOk.lt (q : PartsOk i ps) : ∀ p ∈ ps, p.natAbs < i := fun p hp => (q.1 p hp).2
theorem PartsOk.ge (q : PartsOk i ps) : ∀ p ∈ ps, 1 ≤ p.natAbs := fun p hp => by have := (q.1 p hp).1; exact Nat.le_of_lt this
theorem get_lt {g : String × List Int} (h : gs[i]? = some g) : i < gs.length := (List.getElem?_eq_some_iff.mp h).1
theorem PartsOk.lit (q : PartsOk i ps) (h : gs[i]? = some ("and", ps)) : ∀ p ∈ ps, lit gs p := fun p hp =>
  ⟨q.ge p hp, Nat.lt_trans (q.lt p hp) (get_lt h)⟩
theorem WG.parts (w : WG gs) (h1 : 1 ≤ i) (h : gs[i]? = some ("and", ps)) : PartsOk i ps := by
  cases w.kind h1 (get_lt h) with
  | tru _ e => rw [e] at h; simp at h
  | inp _ e => rw [e] at h; simp at h
  | con ps' _ e q => rw [e] at h; cases h; exact q

theorem mem_BE_and (w : WG gs) (h1 : 1 ≤ i) (h : gs[i]? = some ("and", ps)) {x : Int} : x ∈ BE gs i ↔ x = i ∨ ∃ p ∈ ps, x ∈ BE gs p.natAbs := by
  rw [BE_and h (w.parts h1 h).lt, mem_unionF]; simp
theorem mem_SU_and (w : WG gs) (h1 : 1 ≤ i) (h : gs[i]? = some ("and", ps)) {x : Int} : x ∈ SU gs i ↔ ∃ p ∈ ps, x ∈ SU gs p.natAbs := by
  rw [SU_and h (w.parts h1 h).lt, mem_unionF]; simp

theorem BE_self (w : WG gs) (h1 : 1 ≤ i) (h2 : i < gs.length) : (i : Int) ∈ BE gs i := by
  cases w.kind h1 h2 with
  | tru _ h => rw [BE_leaf h (by decide)]; simp
  | inp _ h => rw [BE_leaf h (by decide)]; simp
  | con ps _ h q => rw [mem_BE_and w h1 h]; exact .inl rfl

theorem BE_range (w : WG gs) : ∀ (i : Nat), 1 ≤ i → i < gs.length → ∀ x ∈ BE gs i, ∃ n : Nat, x = n ∧ 1 ≤ n ∧ n ≤ i := by
  intro i
  induction i using Nat.strongRecOn with
  | ind i ih =>
    intro h1 h2 x hx
    cases w.kind h1 h2 with
    | tru _ h => rw [BE_leaf h (by decide)] at hx; simp at hx; exact ⟨i, hx, h1, Nat.le_refl _⟩
    | inp _ h => rw [BE_leaf h (by decide)] at hx; simp at hx; exact ⟨i, hx, h1, Nat.le_refl _⟩
    | con ps _ h q =>
      rcases (mem_BE_and w h1 h).mp hx with rfl | ⟨p, hp, hx⟩
      · exact ⟨i, rfl, h1, Nat.le_refl _⟩
      · obtain ⟨n, e, e1, e2⟩ := ih p.natAbs (q.lt p hp) (q.ge p hp) (Nat.lt_trans (q.lt p hp) h2) x hx
        exact ⟨n, e, e1, by have := q.lt p hp; exact Nat.le_of_lt (Nat.lt_of_le_of_lt e2 this)⟩

/-- a set that is closed under parts holds all that lies below -/
theorem BE_least (w : WG gs) {F : Int → Prop} (cl : ∀ (n : Nat) ps, F n → 1 ≤ n → gs[n]? = some ("and", ps) → ∀ p ∈ ps, F p.natAbs) :
    ∀ (i : Nat), 1 ≤ i → i < gs.length → F i → ∀ x ∈ BE gs i, F x := by
  intro i
  induction i using Nat.strongRecOn with
  | ind i ih =>
    intro h1 h2 hF x hx
    cases w.kind h1 h2 with
    | tru _ h => rw [BE_leaf h (by decide)] at hx; simp at hx; rw [hx]; exact hF
    | inp _ h => rw [BE_leaf h (by decide)] at hx; simp at hx; rw [hx]; exact hF
    | con ps _ h q =>
      rcases (mem_BE_and w h1 h).mp hx with rfl | ⟨p, hp, hx⟩
      · exact hF
      · exact ih p.natAbs (q.lt p hp) (q.ge p hp) (Nat.lt_trans (q.lt p hp) h2) (cl i ps hF h1 h p hp) x hx

theorem BE_closed (w : WG gs) : ∀ (i : Nat), 1 ≤ i → i < gs.length → ∀ (n : Nat), (n : Int) ∈ BE gs i → ∀ ps, gs[n]? = some ("and", ps) → ∀ p ∈ ps, (p.natAbs : Int) ∈ BE gs i := by
  intro i
  induction i using Nat.strongRecOn with
  | ind i ih =>
    intro h1 h2 n hn ps hps p hp
    cases w.kind h1 h2 with
    | tru _ h => rw [BE_leaf h (by decide)] at hn; simp at hn; have hn : n = i := (by exact Int.ofNat.inj hn); subst hn; rw [h] at hps; simp at hps
    | inp _ h => rw [BE_leaf h (by decide)] at hn; simp at hn; have hn : n = i := (by exact Int.ofNat.inj hn); subst hn; rw [h] at hps; simp at hps
    | con ps' _ h q =>
      rw [mem_BE_and w h1 h]
      rcases (mem_BE_and w h1 h).mp hn with e | ⟨p', hp', hx⟩
      · have e : n = i := by exact Int.ofNat.inj e
        subst e
        rw [h] at hps; cases hps
        exact .inr ⟨p, hp, BE_self w (q.ge p hp) (Nat.lt_trans (q.lt p hp) h2)⟩
      · exact .inr ⟨p', hp', ih p'.natAbs (q.lt p' hp') (q.ge p' hp') (Nat.lt_trans (q.lt p' hp') h2) n hx ps hps p hp⟩
theorem BE_trans (w : WG gs) (h1 : 1 ≤ i) (h2 : i < gs.length) (hj : (j : Int) ∈ BE gs i) : ∀ x ∈ BE gs j, x ∈ BE gs i := by
  obtain ⟨n, e, e1, e2⟩ := BE_range w i h1 h2 _ hj
  have e : j = n := by exact Int.ofNat.inj e
  subst e
  exact BE_least w (F := fun x => x ∈ BE gs i) (fun n ps hn _ hg p hp => BE_closed w i h1 h2 n hn ps hg p hp) j e1 (by exact Nat.lt_of_le_of_lt e2 h2) hj

/-- the support lies below -/
theorem SU_inputs (w : WG gs) : ∀ (i : Nat), 1 ≤ i → i < gs.length → ∀ x ∈ SU gs i, ∃ n : Nat, x = n ∧ 2 ≤ n ∧ n ≤ i ∧ gs[n]? = some ("input", []) := by
  intro i
  induction i using Nat.strongRecOn with
  | ind i ih =>
    intro h1 h2 x hx
    cases w.kind h1 h2 with
    | tru _ h => rw [SU_true h] at hx; cases hx
    | inp h3 h => rw [SU_input h] at hx; simp at hx; exact ⟨i, hx, h3, Nat.le_refl _, h⟩
    | con ps _ h q =>
      obtain ⟨p, hp, hx⟩ := (mem_SU_and w h1 h).mp hx
      obtain ⟨n, e, e1, e2, e3⟩ := ih p.natAbs (q.lt p hp) (q.ge p hp) (Nat.lt_trans (q.lt p hp) h2) x hx
      exact ⟨n, e, e1, by have := q.lt p hp; omega, e3⟩
theorem SU_below (w : WG gs) : ∀ (i : Nat), 1 ≤ i → i < gs.length → ∀ (n : Nat), (n : Int) ∈ BE gs i → ∀ x ∈ SU gs n, x ∈ SU gs i := by
  intro i
  induction i using Nat.strongRecOn with
  | ind i ih =>
    intro h1 h2 n hn x hx
    cases w.kind h1 h2 with
    | tru _ h => rw [BE_leaf h (by decide)] at hn; simp at hn; have hn : n = i := (by exact Int.ofNat.inj hn); subst hn; exact hx
    | inp _ h => rw [BE_leaf h (by decide)] at hn; simp at hn; have hn : n = i := (by omega); subst hn; exact hx
    | con ps' _ h q =>
      rcases (mem_BE_and w h1 h).mp hn with e | ⟨p', hp', hy⟩
      · have e : n = i := by omega
        subst e; exact hx
      · rw [mem_SU_and w h1 h]
        exact ⟨p', hp', ih p'.natAbs (q.lt p' hp') (q.ge p' hp') (Nat.lt_trans (q.lt p' hp') h2) n hy x hx⟩
theorem SU_ne (w : WG gs) : ∀ (i : Nat), 2 ≤ i → i < gs.length → SU gs i ≠ [] := by
  intro i
  induction i using Nat.strongRecOn with
  | ind i ih =>
    intro h1 h2 e
    cases w.kind (by exact Nat.le_of_lt h1) h2 with
    | tru e _ => exact absurd e (Nat.ne_of_gt h1)
    | inp h3 h => rw [SU_input h] at e; cases e
    | con ps _ h q =>
      cases ps with
      | nil => have := q.2.2.2; simp at this
      | cons p ps =>
        have hp : p ∈ p :: ps := List.mem_cons_self
        have := ih p.natAbs (q.lt p hp) (q.1 p hp).1 (Nat.lt_trans (q.lt p hp) h2)
        cases hs : SU gs p.natAbs with
        | nil => exact this hs
        | cons x r =>
          have : x ∈ SU gs i := (mem_SU_and w (by exact Nat.le_of_lt h1) h).mpr ⟨p, hp, by rw [hs]; exact List.mem_cons_self⟩
          rw [e] at this; cases this

theorem len_le_of_sub {α : Type} [DecidableEq α] : ∀ {l m : List α}, l.Nodup → (∀ x ∈ l, x ∈ m) → l.length ≤ m.length
  | [], m, _, _ => by simp
  | a :: l, m, hn, hs => by
    have ha : a ∈ m := hs a List.mem_cons_self
    have hn' := List.nodup_cons.mp hn
    have := len_le_of_sub (l := l) (m := m.erase a) hn'.2 fun x hx => by
      rw [List.mem_erase_of_ne (fun e => hn'.1 (by rw [← e]; exact hx))]
      exact hs x (List.mem_cons_of_mem _ hx)
    rw [List.length_erase_of_mem ha] at this
    have : 0 < m.length := List.length_pos_of_mem ha
    simp only [List.length_cons]; omega
theorem perm_of_mem {l m : List Int} (h1 : l.Nodup) (h2 : m.Nodup) (h : ∀ x, x ∈ l ↔ x ∈ m) : l.Perm m :=
  (List.perm_ext_iff_of_nodup h1 h2).mpr h

/-- the parts of a gate lie in its range -/
theorem parts_len (w : WG gs) (h1 : 1 ≤ i) (h : gs[i]? = some ("and", ps)) : ps.length < (BE gs i).length := by
  have q := w.parts h1 h
  have hn : (ps.map fun p => (p.natAbs : Int)).Nodup := by
    rw [List.Nodup, List.pairwise_map]
    refine q.2.1.imp_of_mem (S := fun a b => ((a.natAbs : Int) ≠ (b.natAbs : Int))) ?_
    intro a b ha hb hne e
    have : a = b ∨ a = -b := Int.natAbs_eq_natAbs_iff.mp (Int.ofNat.inj e)
    rcases this with e | e
    · exact hne e
    · exact q.2.2.1 b hb (e ▸ ha)
  have hi : (i : Int) ∉ ps.map fun p => (p.natAbs : Int) := fun hm => by
    obtain ⟨p, hp, e⟩ := List.mem_map.mp hm
    have := q.lt p hp; exact absurd this (Nat.not_lt_of_le (Nat.le_of_eq (Int.ofNat.inj (Eq.symm e))))
  have := len_le_of_sub (l := (i : Int) :: ps.map fun p => (p.natAbs : Int)) (m := BE gs i) (List.nodup_cons.mpr ⟨hi, hn⟩) fun x hx => by
    rcases List.mem_cons.mp hx with rfl | hx
    · exact BE_self w h1 (get_lt h)
    · obtain ⟨p, hp, rfl⟩ := List.mem_map.mp hx
      exact (mem_BE_and w h1 h).mpr (.inr ⟨p, hp, BE_self w (q.ge p hp) (Nat.lt_trans (q.lt p hp) (get_lt h))⟩)
  simp at this; exact this
end
end Mine
end
section
set_option Elab.async false
set_option maxRecDepth 100000
set_option linter.unusedVariables false
set_option linter.unusedSimpArgs false
namespace Mine

noncomputable def upd (ρ : Int → Bool) (x : Int) (b : Bool) : Int → Bool := fun y => if y = x then b else ρ y
/-- how many ways to set xs make f true -/
noncomputable def cnt : List Int → ((Int → Bool) → Bool) → Nat
  | [], f => if f (fun _ => false) then 1 else 0
  | x :: xs, f => cnt xs (fun ρ => f (upd ρ x false)) + cnt xs (fun ρ => f (upd ρ x true))
noncomputable def Dep (f : (Int → Bool) → Bool) (D : List Int) : Prop := ∀ ρ ρ', (∀ x ∈ D, ρ x = ρ' x) → f ρ = f ρ'

section
variable {f g : (Int → Bool) → Bool} {xs ys D D1 D2 r : List Int} {x y : Int} {a b : Bool} {ρ : Int → Bool}

theorem upd_self : upd ρ x b x = b := by simp [upd]
theorem upd_ne (h : y ≠ x) : upd ρ x b y = ρ y := by simp [upd, h]
theorem upd_comm (h : x ≠ y) : upd (upd ρ x a) y b = upd (upd ρ y b) x a := by
  funext z; unfold upd
  by_cases e : z = y
  · subst e; simp [Ne.symm h]
  · simp [e]
theorem cnt_congr (h : ∀ ρ, f ρ = g ρ) : cnt xs f = cnt xs g := by rw [show f = g from funext h]
theorem cnt_perm (h : xs.Perm ys) : ∀ f, cnt xs f = cnt ys f := by
  induction h with
  | nil => intro f; rfl
  | cons x _ ih => intro f; simp only [cnt]; rw [ih, ih]
  | swap x y l =>
    intro f
    by_cases e : x = y
    · rw [e]
    · simp only [cnt]
      have h1 : ∀ a b ρ, f (upd (upd ρ x a) y b) = f (upd (upd ρ y b) x a) := fun a b ρ => by rw [upd_comm e]
      simp only [h1]
      exact Nat.add_add_add_comm _ _ _ _
  | trans _ _ ih1 ih2 => intro f; rw [ih1, ih2]
theorem cnt_true : cnt xs (fun _ => true) = 2 ^ xs.length := by
  induction xs with
  | nil => rfl
  | cons x xs ih => simp only [cnt, ih, List.length_cons, Nat.pow_succ]; exact (Nat.mul_two _).symm
theorem cnt_false : cnt xs (fun _ => false) = 0 := by
  induction xs with
  | nil => rfl
  | cons x xs ih => simp only [cnt, ih]
theorem cnt_not : ∀ {xs : List Int} {f : (Int → Bool) → Bool}, cnt xs f + cnt xs (fun ρ => !f ρ) = 2 ^ xs.length
  | [], f => by
    simp only [cnt]
    by_cases h : f (fun _ => false) = true
    · simp [h]
    · simp [h]
  | x :: xs, f => by
    have h1 := cnt_not (xs := xs) (f := fun ρ => f (upd ρ x false))
    have h2 := cnt_not (xs := xs) (f := fun ρ => f (upd ρ x true))
    simp only [cnt, List.length_cons, Nat.pow_succ]; omega
theorem cnt_le : cnt xs f ≤ 2 ^ xs.length := by have := cnt_not (xs := xs) (f := f); exact Nat.le_trans (Nat.le_add_right _ _) (Nat.le_of_eq this)
theorem cnt_or : ∀ {xs : List Int} {f g : (Int → Bool) → Bool}, (∀ ρ, (f ρ && g ρ) = false) → cnt xs (fun ρ => f ρ || g ρ) = cnt xs f + cnt xs g
  | [], f, g, h => by
    have := h fun _ => false
    simp only [cnt]
    by_cases h1 : f (fun _ => false) = true
    · have h2 : g (fun _ => false) = false := by simpa [h1] using this
      simp [h1, h2]
    · simp [h1]
  | x :: xs, f, g, h => by
    have h1 := cnt_or (xs := xs) (f := fun ρ => f (upd ρ x false)) (g := fun ρ => g (upd ρ x false)) fun ρ => h _
    have h2 := cnt_or (xs := xs) (f := fun ρ => f (upd ρ x true)) (g := fun ρ => g (upd ρ x true)) fun ρ => h _
    simp only [cnt]; rw [h1, h2]; exact Nat.add_add_add_comm _ _ _ _

theorem Dep.upd (h : Dep f D) (hx : x ∉ D) : f (upd ρ x b) = f ρ := h _ _ fun y hy => upd_ne (fun e => hx (e ▸ hy))
theorem Dep.mono (h : Dep f D1) (hs : ∀ x ∈ D1, x ∈ D2) : Dep f D2 := fun ρ ρ' e => h ρ ρ' fun x hx => e x (hs x hx)
theorem Dep.not (h : Dep f D) : Dep (fun ρ => !f ρ) D := fun ρ ρ' e => by show (!f ρ) = !f ρ'; rw [h ρ ρ' e]
theorem Dep.fix (h : Dep f (x :: D)) : Dep (fun ρ => f (Mine.upd ρ x b)) D := fun ρ ρ' e => h _ _ fun y hy => by
  by_cases q : y = x
  · subst q; rw [upd_self, upd_self]
  · rw [upd_ne q, upd_ne q]
    rcases List.mem_cons.mp hy with z | z
    · exact absurd z q
    · exact e y z

theorem cnt_indep : ∀ {r : List Int} {f : (Int → Bool) → Bool}, Dep f D → (∀ x ∈ r, x ∉ D) → cnt (r ++ xs) f = 2 ^ r.length * cnt xs f
  | [], f, h, _ => by simp
  | x :: r, f, h, hr => by
    have hx := hr x List.mem_cons_self
    have e : ∀ b, (fun ρ => f (upd ρ x b)) = f := fun b => funext fun ρ => h.upd hx
    show cnt (r ++ xs) (fun ρ => f (upd ρ x false)) + cnt (r ++ xs) (fun ρ => f (upd ρ x true)) = _
    rw [e, e, cnt_indep h fun y hy => hr y (List.mem_cons_of_mem _ hy)]
    simp only [List.length_cons, Nat.pow_succ]
    rw [Nat.mul_comm (2 ^ r.length) 2, Nat.mul_assoc, Nat.two_mul]

theorem cnt_sub (hD : D.Nodup) (hx : xs.Nodup) (hs : ∀ x ∈ D, x ∈ xs) (h : Dep f D) : D.length ≤ xs.length ∧ cnt xs f = 2 ^ (xs.length - D.length) * cnt D f := by
  have hp : ((xs.filter fun x => decide (x ∉ D)) ++ D).Perm xs := by
    refine perm_of_mem ?_ hx fun x => ?_
    · rw [List.nodup_append]
      refine ⟨hx.filter _, hD, fun a ha b hb e => ?_⟩
      subst e
      have := (List.mem_filter.mp ha).2
      simp at this; exact this hb
    · rw [List.mem_append, List.mem_filter]
      by_cases q : x ∈ D
      · simp [q]; exact hs x q
      · simp [q]
  have hl := hp.length_eq
  rw [List.length_append] at hl
  refine ⟨by exact Nat.le_trans (Nat.le_add_left _ _) (Nat.le_of_eq hl), ?_⟩
  rw [← cnt_perm hp, cnt_indep h fun x hx => by have := (List.mem_filter.mp hx).2; simpa using this]
  congr 2; omega

theorem cnt_and : ∀ {D1 : List Int} {f : (Int → Bool) → Bool}, Dep f D1 → Dep g D2 → (∀ x ∈ D1, x ∉ D2) → cnt (D1 ++ D2) (fun ρ => f ρ && g ρ) = cnt D1 f * cnt D2 g
  | [], f, h1, h2, _ => by
    have e : ∀ ρ, f ρ = f (fun _ => false) := fun ρ => h1 _ _ fun x hx => nomatch hx
    show cnt D2 (fun ρ => f ρ && g ρ) = (if f (fun _ => false) then 1 else 0) * _
    rw [cnt_congr (g := fun ρ => f (fun _ => false) && g ρ) fun ρ => by rw [e ρ]]
    cases f fun _ => false
    · simp [cnt_false]
    · simp
  | x :: D1, f, h1, h2, hd => by
    have hx := hd x List.mem_cons_self
    have ih : ∀ b, cnt (D1 ++ D2) (fun ρ => f (upd ρ x b) && g (upd ρ x b)) = cnt D1 (fun ρ => f (upd ρ x b)) * cnt D2 g := fun b => by
      rw [← cnt_and (D1 := D1) (f := fun ρ => f (upd ρ x b)) h1.fix h2 fun y hy => hd y (List.mem_cons_of_mem _ hy)]
      exact cnt_congr fun ρ => by rw [h2.upd hx]
    show cnt (D1 ++ D2) (fun ρ => f (upd ρ x false) && g (upd ρ x false)) + cnt (D1 ++ D2) (fun ρ => f (upd ρ x true) && g (upd ρ x true)) = (cnt D1 _ + cnt D1 _) * _
    rw [ih, ih, Nat.add_mul]

theorem cnt_erase (hx : x ∈ D) : cnt D f = cnt (D.erase x) (fun ρ => f (upd ρ x false)) + cnt (D.erase x) (fun ρ => f (upd ρ x true)) := by
  rw [cnt_perm (List.perm_cons_erase hx)]; rfl
end
end Mine
end
section
set_option Elab.async false
set_option maxRecDepth 100000
set_option linter.unusedVariables false
set_option linter.unusedSimpArgs false
namespace Mine

structure WC (C : Circ) : Prop where
  wg : WG C.gs
  kn : ∀ ks v, (ks, v) ∈ C.known → ∃ n : Nat, v = n ∧ C.gs[n]? = some ("and", ks) ∧ 1 ≤ n

structure FOk (gs : Gates) (l : List Int) : Prop where
  nd : l.Nodup
  li : ∀ p ∈ l, lit gs p ∧ 2 ≤ p.natAbs
  nc : ∀ p ∈ l, -p ∉ l

section
variable {gs gs' : Gates} {i j : Nat} {ρ ρ' : Int → Bool} {ps : List Int} {p : Int}

theorem Lit_one (w : WG gs) : Lit gs ρ 1 = true := by
  show (V gs ρ 1 == decide ((0:Int) < 1)) = true
  rw [V_true w.g1]; rfl
theorem Lit_neg_one (w : WG gs) : Lit gs ρ (-1) = false := by
  show (V gs ρ 1 == decide ((0:Int) < -1)) = false
  rw [V_true w.g1]; rfl
theorem lit_one (w : WG gs) : lit gs 1 := ⟨Nat.le_refl _, w.len⟩
theorem lit_neg_one (w : WG gs) : lit gs (-1) := ⟨Nat.le_refl _, w.len⟩

theorem allScan_ok (w : WG gs) : ∀ {gates found : List Int}, FOk gs found → (∀ g ∈ gates, lit gs g) →
    (allScan found gates = none → ∀ ρ, (found.all (Lit gs ρ) && gates.all (Lit gs ρ)) = false) ∧
    (∀ out, allScan found gates = some out → FOk gs out ∧ (∀ ρ, out.all (Lit gs ρ) = (found.all (Lit gs ρ) && gates.all (Lit gs ρ))) ∧
      (∀ p ∈ out, p ∈ found ∨ p ∈ gates) ∧ (∀ p, p ∈ found ∨ p ∈ gates → p = 1 ∨ p ∈ out) ∧ (∀ p ∈ found, p ∈ out))
  | [], found, hf, _ => by
    refine ⟨fun e => by (cases e), fun out e => ?_⟩
    have e : found = out := by injection e
    subst e
    exact ⟨hf, fun ρ => by simp, fun p hp => .inl hp, fun p hp => (by rcases hp with q | q; exact .inr q; cases q), fun p hp => hp⟩
  | g :: r, found, hf, hl => by
    have hg := hl g List.mem_cons_self
    unfold allScan
    by_cases hc : g = -1 ∨ -g ∈ found
    · rw [if_pos hc]
      refine ⟨fun _ ρ => ?_, fun out e => by (cases e)⟩
      rcases hc with rfl | hc
      · simp [Lit_neg_one w]
      · by_cases q : Lit gs ρ g = true
        · have : Lit gs ρ (-g) = false := by rw [Lit_neg hg, q]; rfl
          have : found.all (Lit gs ρ) = false := by
            rw [List.all_eq_false]; exact ⟨-g, hc, by rw [this]; simp⟩
          rw [this]; rfl
        · have : (g :: r).all (Lit gs ρ) = false := by
            rw [List.all_eq_false]; exact ⟨g, List.mem_cons_self, q⟩
          rw [this, Bool.and_false]
    · rw [if_neg hc]
      have hg1 : g ≠ -1 := fun e => hc (.inl e)
      have hg2 : -g ∉ found := fun e => hc (.inr e)
      by_cases h1 : g = 1
      · rw [if_pos h1]
        subst h1
        obtain ⟨ih1, ih2⟩ := allScan_ok w (gates := r) hf fun q hq => hl q (List.mem_cons_of_mem _ hq)
        refine ⟨fun e ρ => ?_, fun out e => ?_⟩
        · have := ih1 e ρ
          rw [List.all_cons, Lit_one w, Bool.true_and]; exact this
        · obtain ⟨a, b, c, d, f⟩ := ih2 out e
          refine ⟨a, fun ρ => by rw [b, List.all_cons, Lit_one w, Bool.true_and], fun p hp => ?_, fun p hp => ?_, f⟩
          · rcases c p hp with q | q
            · exact .inl q
            · exact .inr (List.mem_cons_of_mem _ q)
          · rcases hp with q | q
            · exact d p (.inl q)
            · rcases List.mem_cons.mp q with q | q
              · exact .inl q
              · exact d p (.inr q)
      · rw [if_neg h1]
        have h2 : 2 ≤ g.natAbs := by have := hg.1; omega
        have hf' : FOk gs (if g ∈ found then found else found ++ [g]) := by
          split
          · exact hf
          · rename_i hn
            refine ⟨?_, fun p hp => ?_, fun p hp hq => ?_⟩
            · rw [List.nodup_append]
              exact ⟨hf.nd, by simp, fun a ha b hb e => by simp at hb; subst hb; subst e; exact hn ha⟩
            · rcases List.mem_append.mp hp with q | q
              · exact hf.li p q
              · simp at q; subst q; exact ⟨hg, h2⟩
            · rcases List.mem_append.mp hp with q | q <;> rcases List.mem_append.mp hq with z | z
              · exact hf.nc p q z
              · simp at z; exact hg2 (by rw [← z]; simpa using q)
              · simp at q; subst q; exact hg2 z
              · simp at q z; subst q; omega
        have hm : ∀ p, p ∈ (if g ∈ found then found else found ++ [g]) ↔ p ∈ found ∨ p = g := fun p => by
          split
          · rename_i hn
            exact ⟨.inl, fun q => by rcases q with q | q; exact q; exact q ▸ hn⟩
          · simp
        have ha : ∀ ρ, (if g ∈ found then found else found ++ [g]).all (Lit gs ρ) = (found.all (Lit gs ρ) && Lit gs ρ g) := fun ρ => by
          rw [Bool.eq_iff_iff, List.all_eq_true, Bool.and_eq_true, List.all_eq_true]
          constructor
          · intro h; exact ⟨fun x hx => h x ((hm x).mpr (.inl hx)), h g ((hm g).mpr (.inr rfl))⟩
          · rintro ⟨h3, h4⟩ x hx
            rcases (hm x).mp hx with q | q
            · exact h3 x q
            · rw [q]; exact h4
        obtain ⟨ih1, ih2⟩ := allScan_ok w (gates := r) hf' fun q hq => hl q (List.mem_cons_of_mem _ hq)
        refine ⟨fun e ρ => ?_, fun out e => ?_⟩
        · have := ih1 e ρ
          rw [ha] at this
          rw [List.all_cons, ← Bool.and_assoc]; exact this
        · obtain ⟨a, b, c, d, f⟩ := ih2 out e
          refine ⟨a, fun ρ => by rw [b, ha, List.all_cons, Bool.and_assoc], fun p hp => ?_, fun p hp => ?_, fun p hp => f p ((hm p).mpr (.inl hp))⟩
          · rcases c p hp with q | q
            · rcases (hm p).mp q with z | z
              · exact .inl z
              · exact .inr (by rw [z]; exact List.mem_cons_self)
            · exact .inr (List.mem_cons_of_mem _ q)
          · rcases hp with q | q
            · exact d p (.inl ((hm p).mpr (.inl q)))
            · rcases List.mem_cons.mp q with q | q
              · exact d p (.inl ((hm p).mpr (.inr q)))
              · exact d p (.inr q)

theorem Lit_pos {n : Nat} (h : 1 ≤ n) : Lit gs ρ (n : Int) = V gs ρ n := by
  unfold Lit
  rw [show ((n : Int).natAbs) = n from rfl, decide_eq_true (by exact Int.ofNat_le.mpr h)]
  cases V gs ρ n <;> rfl

/-- what all_of gives -/
structure AllOk (C : Circ) (gates : List Int) (C' : Circ) (r : Int) : Prop where
  wc : WC C'
  pre : C.gs <+: C'.gs
  li : lit C'.gs r
  sem : ∀ ρ, Lit C'.gs ρ r = gates.all (Lit C.gs ρ)
  form : (r.natAbs = 1) ∨ (r ∈ gates) ∨ (∃ (n : Nat) (ps : List Int), r = n ∧ 1 ≤ n ∧ C'.gs[n]? = some ("and", ps) ∧ ∀ p ∈ ps, p ∈ gates)
  full : FOk C.gs gates → gates ≠ [] → (gates = [r]) ∨ (∃ (n : Nat) (ps : List Int), r = n ∧ 1 ≤ n ∧ C'.gs[n]? = some ("and", ps) ∧ ps.Perm gates)

theorem allScan_full : ∀ {gates found : List Int}, FOk gs (found ++ gates) → allScan found gates = some (found ++ gates)
  | [], found, h => by simp [allScan]
  | g :: r, found, h => by
    have hg : g ∈ found ++ g :: r := by simp
    have h2 := (h.li g hg).2
    unfold allScan
    have hnd := h.nd
    rw [List.nodup_append] at hnd
    have h3 : g ∉ found := fun q => hnd.2.2 g q g List.mem_cons_self rfl
    rw [if_neg, if_neg (by exact fun e => Nat.lt_irrefl _ (e ▸ h2)), if_neg h3]
    · have e : found ++ g :: r = (found ++ [g]) ++ r := by simp
      rw [e] at h ⊢
      exact allScan_full h
    · rintro (q | q)
      · omega
      · exact h.nc g hg (List.mem_append_left _ q)

theorem mem_srt {l : List Int} {x : Int} : x ∈ srt l ↔ x ∈ l := (srt_perm l).mem_iff

theorem WC.snoc {C : Circ} (w : WC C) {ks : List Int} (h : FOk C.gs ks) (h2 : 2 ≤ ks.length) :
    WC { gs := C.gs ++ [("and", ks)], known := C.known ++ [(ks, (C.gs.length : Int))] } := by
  refine ⟨⟨?_, ?_, fun i g hg hi => ?_⟩, fun k v hm => ?_⟩
  · have := w.wg.len; dsimp only; rw [List.getElem?_append_left (by exact Nat.le_of_lt this)]; exact w.wg.g0
  · have := w.wg.len; dsimp only; rw [List.getElem?_append_left (by exact this)]; exact w.wg.g1
  · dsimp only at hg
    by_cases q : i < C.gs.length
    · rw [List.getElem?_append_left q] at hg; exact w.wg.gate i g hg hi
    · have hl := (List.getElem?_eq_some_iff.mp hg).1
      simp at hl
      have e : i = C.gs.length := by exact Nat.le_antisymm (Nat.le_of_lt_succ hl) (Nat.not_lt.mp q)
      subst e
      simp at hg
      subst hg
      exact .inr ⟨rfl, fun p hp => ⟨(h.li p hp).2, (h.li p hp).1.2⟩, h.nd, h.nc, h2⟩
  · rcases List.mem_append.mp hm with q | q
    · obtain ⟨n, e1, e2, e3⟩ := w.kn k v q
      refine ⟨n, e1, ?_, e3⟩
      dsimp only
      rw [List.getElem?_append_left (get_lt e2)]; exact e2
    · simp at q
      obtain ⟨rfl, rfl⟩ := q
      exact ⟨C.gs.length, rfl, by simp, by have := w.wg.len; exact Nat.le_of_lt this⟩

theorem V_srt {C : Circ} {C' : Circ} (w : WC C') {n : Nat} {ks : List Int} (hp : C.gs <+: C'.gs) (hk : C'.gs[n]? = some ("and", ks)) (h1 : 1 ≤ n) (hl : ∀ p ∈ ks, lit C.gs p) : Lit C'.gs ρ (n : Int) = ks.all (Lit C.gs ρ) := by
  rw [Lit_pos h1, V_and hk (w.wg.parts h1 hk).lt, Bool.eq_iff_iff, List.all_eq_true, List.all_eq_true]
  constructor
  · intro z x hx; rw [← Lit_stable hp (hl x hx)]; exact z x hx
  · intro z x hx; rw [Lit_stable hp (hl x hx)]; exact z x hx

theorem srt_all {l : List Int} {f : Int → Bool} : (srt l).all f = l.all f := by
  rw [Bool.eq_iff_iff, List.all_eq_true, List.all_eq_true]
  constructor
  · intro h x hx; exact h x (mem_srt.mpr hx)
  · intro h x hx; exact h x (mem_srt.mp hx)

theorem allOf_ok {C : Circ} (w : WC C) {gates : List Int} (hl : ∀ g ∈ gates, lit C.gs g) : AllOk C gates (allOf C gates).1 (allOf C gates).2 := by
  obtain ⟨h1, h2⟩ := allScan_ok w.wg (found := []) (gates := gates) ⟨List.nodup_nil, fun _ h => (nomatch h), fun _ h => (nomatch h)⟩ hl
  have hfull : FOk C.gs gates → allScan [] gates = some gates := fun h => by simpa using allScan_full (found := []) (gates := gates) (by simpa using h)
  cases hs : allScan [] gates with
  | none =>
    have e : allOf C gates = (C, -1) := by unfold allOf; rw [hs]
    rw [e]
    refine ⟨w, List.prefix_refl _, lit_neg_one w.wg, fun ρ => ?_, .inl rfl, fun hf => ?_⟩
    · rw [Lit_neg_one w.wg]
      have := h1 hs ρ
      simpa using this.symm
    · rw [hfull hf] at hs; cases hs
  | some found =>
    obtain ⟨a, b, c, d, _⟩ := h2 found hs
    have b' : ∀ ρ, found.all (Lit C.gs ρ) = gates.all (Lit C.gs ρ) := fun ρ => by rw [b ρ]; rfl
    have c' : ∀ p ∈ found, p ∈ gates := fun p hp => by rcases c p hp with q | q; cases q; exact q
    have hfl : FOk C.gs gates → found = gates := fun h => by have := hfull h; rw [hs] at this; injection this
    have hsl : (srt found).length = found.length := (srt_perm found).length_eq
    by_cases hc : (srt found).length < 2
    · cases hq : srt found with
      | nil =>
        have e : allOf C gates = (C, 1) := by unfold allOf; rw [hs]; dsimp only; rw [if_pos hc, hq]
        rw [e]
        have : found = [] := by rw [hq] at hsl; exact List.length_eq_zero_iff.mp hsl.symm
        subst this
        refine ⟨w, List.prefix_refl _, lit_one w.wg, fun ρ => ?_, .inl rfl, fun hf hne => absurd (hfl hf).symm hne⟩
        rw [← b' ρ]; exact Lit_one w.wg
      | cons p r =>
        cases r with
        | cons _ _ => rw [hq] at hc; simp at hc; omega
        | nil =>
          have e : allOf C gates = (C, p) := by unfold allOf; rw [hs]; dsimp only; rw [if_pos hc, hq]
          rw [e]
          have : found = [p] := by
            have := srt_perm found
            rw [hq] at this
            exact (List.perm_singleton.mp this.symm)
          subst this
          refine ⟨w, List.prefix_refl _, hl p (c' p (by simp)), fun ρ => ?_, .inr (.inl (c' p (by simp))), fun hf _ => .inl (hfl hf).symm⟩
          rw [← b' ρ]; simp
    · have hsf : FOk C.gs (srt found) := ⟨(srt_perm found).nodup_iff.mpr a.nd, fun p hp => a.li p (mem_srt.mp hp), fun p hp hq => a.nc p (mem_srt.mp hp) (mem_srt.mp hq)⟩
      cases hg : aGet C.known (srt found) with
      | none =>
        have e : allOf C gates = ({ gs := C.gs ++ [("and", srt found)], known := C.known ++ [(srt found, (C.gs.length : Int))] }, (C.gs.length : Int)) := by
          unfold allOf; rw [hs]; dsimp only; rw [if_neg hc, hg]
        rw [e]
        have w' := w.snoc hsf (by exact Nat.not_lt.mp hc)
        have h1' : 1 ≤ C.gs.length := by have := w.wg.len; exact Nat.le_of_lt this
        have hget : (C.gs ++ [("and", srt found)])[C.gs.length]? = some ("and", srt found) := by simp
        have hpre : C.gs <+: C.gs ++ [("and", srt found)] := List.prefix_append _ _
        refine ⟨w', hpre, ⟨h1', by simp⟩, fun ρ => ?_, .inr (.inr ⟨C.gs.length, _, rfl, h1', hget, fun p hp => c' p (mem_srt.mp hp)⟩), fun hf _ => .inr ⟨C.gs.length, _, rfl, h1', hget, ?_⟩⟩
        · rw [V_srt w' hpre hget h1' fun p hp => (hsf.li p hp).1, srt_all, b' ρ]
        · rw [← hfl hf]; exact srt_perm found
      | some g =>
        have e : allOf C gates = (C, g) := by
          unfold allOf; rw [hs]; dsimp only; rw [if_neg hc, hg]
        rw [e]
        obtain ⟨n, rfl, hget, h1'⟩ := w.kn _ _ (aGet_mem hg)
        have hpre : C.gs <+: C.gs := List.prefix_refl _
        refine ⟨w, hpre, ⟨h1', get_lt hget⟩, fun ρ => ?_, .inr (.inr ⟨n, _, rfl, h1', hget, fun p hp => c' p (mem_srt.mp hp)⟩), fun hf _ => .inr ⟨n, _, rfl, h1', hget, ?_⟩⟩
        · rw [V_srt w hpre hget h1' fun p hp => (hsf.li p hp).1, srt_all, b' ρ]
        · rw [← hfl hf]; exact srt_perm found
end
end Mine
end
section
set_option Elab.async false
set_option maxRecDepth 100000
set_option linter.unusedVariables false
set_option linter.unusedSimpArgs false
namespace Mine

noncomputable def tau (T : List (Int × Int)) (h : Int) : Int := (aGet T h).getD h
noncomputable def turn (T : List (Int × Int)) (p : Int) : Int := if p > 0 then tau T p.natAbs else -tau T p.natAbs

/-- the gate h with x settled to b is r -/
structure SubOk (C C' : Circ) (x : Int) (b : Bool) (t : Int → Int) (h : Nat) : Prop where
  li : lit C'.gs (t h)
  sem : ∀ ρ, Lit C'.gs ρ (t h) = V C.gs (upd ρ x b) h
  su : ∀ y ∈ SU C'.gs (t h).natAbs, y ∈ SU C.gs h ∧ y ≠ x
  be : ∀ y ∈ BE C'.gs (t h).natAbs, ∃ h' ∈ BE C.gs h, y = (t h').natAbs

structure SetI (C C' : Circ) (x : Nat) (b : Bool) (T : List (Int × Int)) (pr : List Int) : Prop where
  wc : WC C'
  pre : C.gs <+: C'.gs
  key : ∀ k v, (k, v) ∈ T → k = x ∨ (k ∈ pr ∧ ∃ n : Nat, k = n ∧ (x : Int) ∈ SU C.gs n)
  has : aGet T x = some (if b then 1 else -1)
  all : ∀ n : Nat, (n : Int) ∈ pr → SubOk C C' x b (tau T) n

section
variable {C C' C'' : Circ} {x h g : Nat} {b : Bool} {T : List (Int × Int)} {pr : List Int} {ps : List Int} {r : Int} {ρ : Int → Bool}

theorem aGet_isSome {K W : Type} [DecidableEq K] : ∀ {kvs : List (K × W)} {k : K} {v : W}, (k, v) ∈ kvs → ∃ v', aGet kvs k = some v'
  | kv :: r, k, v, h => by
    unfold aGet
    rw [List.find?_cons]
    by_cases e : kv.1 = k
    · exact ⟨kv.2, by simp [e]⟩
    · rcases List.mem_cons.mp h with q | q
      · exact absurd (by rw [← q]) e
      · obtain ⟨v', z⟩ := aGet_isSome (kvs := r) q
        exact ⟨v', by simp only [e, decide_false]; exact z⟩
theorem aGet_put_ne {K W : Type} [DecidableEq K] {k k' : K} {v : W} (hne : k' ≠ k) : ∀ {kvs : List (K × W)}, aGet (aPut kvs k v) k' = aGet kvs k' := by
  intro kvs
  unfold aPut
  split
  · rename_i h0
    clear h0
    induction kvs with
    | nil => rfl
    | cons kv r ih =>
      unfold aGet at ih ⊢
      rw [List.map_cons, List.find?_cons, List.find?_cons]
      by_cases e : kv.1 = k
      · have e' : ¬ k = k' := fun q => hne q.symm
        have e'' : ¬ kv.1 = k' := by rw [e]; exact e'
        simp only [e, if_true, e', decide_false]
        exact ih
      · simp only [e, if_false]
        by_cases e' : kv.1 = k'
        · simp [e']
        · simp only [e', decide_false]; exact ih
  · rename_i h0
    clear h0
    induction kvs with
    | nil => simp [aGet, Ne.symm hne]
    | cons kv r ih =>
      unfold aGet at ih ⊢
      rw [List.cons_append, List.find?_cons, List.find?_cons]
      by_cases e' : kv.1 = k'
      · simp [e']
      · simp only [e', decide_false]; exact ih
theorem mem_aPut {K W : Type} [DecidableEq K] {kvs : List (K × W)} {k k' : K} {v v' : W} (h : (k', v') ∈ aPut kvs k v) : (k', v') ∈ kvs ∨ (k' = k ∧ v' = v) := by
  unfold aPut at h
  split at h
  · obtain ⟨y, hy, e⟩ := List.mem_map.mp h
    split at e
    · rename_i q; cases e; exact .inr ⟨q, rfl⟩
    · cases e; exact .inl hy
  · rcases List.mem_append.mp h with q | q
    · exact .inl q
    · simp at q; exact .inr q
theorem aGet_none_of {K W : Type} [DecidableEq K] {kvs : List (K × W)} {k : K} (h : ∀ v, (k, v) ∉ kvs) : aGet kvs k = none := by
  cases e : aGet kvs k with
  | none => rfl
  | some v => exact absurd (aGet_mem e) (h v)

theorem SubOk.mono {t : Int → Int} (s : SubOk C C' x b t h) (w : WC C') (p : C'.gs <+: C''.gs) : SubOk C C'' x b t h := by
  refine ⟨s.li.mono p, fun ρ => by rw [Lit_stable p s.li, s.sem], ?_, ?_⟩
  · rw [SU_stable p s.li.2]; exact s.su
  · rw [BE_stable p s.li.2]; exact s.be
theorem SubOk.congr {t t' : Int → Int} (s : SubOk C C' x b t h) (e : ∀ y ∈ BE C.gs h, t' y = t y) (hs : (h : Int) ∈ BE C.gs h) : SubOk C C' x b t' h := by
  have e' := e h hs
  refine ⟨by rw [e']; exact s.li, fun ρ => by rw [e', s.sem], ?_, ?_⟩
  · rw [e']; exact s.su
  · rw [e']
    intro y hy
    obtain ⟨h', a, b⟩ := s.be y hy
    exact ⟨h', a, by rw [e h' a]; exact b⟩

/-- no gate below h is touched -/
theorem SetI.skip (w : WC C) (s : SetI C C' x b T pr) (h1 : 1 ≤ h) (h2 : h < C.gs.length) (hn : (h : Int) ∉ pr) (hx : (h : Int) ≠ x) (hu : (x : Int) ∉ SU C.gs h) (hxi : C.gs[x]? = some ("input", [])) : SetI C C' x b T (pr ++ [(h : Int)]) := by
  refine ⟨s.wc, s.pre, fun k v hk => ?_, s.has, fun n hm => ?_⟩
  · rcases s.key k v hk with q | ⟨q, z⟩
    · exact .inl q
    · exact .inr ⟨List.mem_append_left _ q, z⟩
  rcases List.mem_append.mp hm with q | q
  · exact s.all n q
  simp at q
  have q : n = h := by exact Int.ofNat.inj q
  subst q
  have ht : ∀ y ∈ BE C.gs n, tau T y = y := fun y hy => by
    unfold tau
    rw [aGet_none_of]
    · rfl
    · intro v hk
      obtain ⟨m, rfl, m1, m2⟩ := BE_range w.wg n h1 h2 y hy
      rcases s.key _ v hk with q | ⟨q, z⟩
      · have q : m = x := by exact Int.ofNat.inj q
        subst q
        exact hu (SU_below w.wg n h1 h2 m hy m (by rw [SU_input hxi]; simp))
      · obtain ⟨m', e, z⟩ := z
        have e : m = m' := by exact Int.ofNat.inj e
        subst e
        exact hu (SU_below w.wg n h1 h2 m hy x z)
  have htn := ht n (BE_self w.wg h1 h2)
  refine ⟨?_, fun ρ => ?_, ?_, ?_⟩
  · rw [htn]; exact lit.mono s.pre ⟨h1, h2⟩
  · rw [htn, Lit_pos h1, V_stable s.pre h2]
    exact V_dep w.wg n h1 h2 fun y hy => (upd_ne (fun e => hu (by rw [← e]; exact hy))).symm
  · rw [htn]
    rw [show ((n : Int).natAbs) = n from rfl, SU_stable s.pre h2]
    exact fun y hy => ⟨hy, fun e => hu (by rw [← e]; exact hy)⟩
  · rw [htn]
    rw [show ((n : Int).natAbs) = n from rfl, BE_stable s.pre h2]
    intro y hy
    refine ⟨y, hy, ?_⟩
    rw [ht y hy]
    obtain ⟨m, rfl, m1, m2⟩ := BE_range w.wg n h1 h2 y hy
    exact rfl

theorem SetI.self (w : WC C) (s : SetI C C' x b T pr) (h1 : 1 ≤ x) (h2 : x < C.gs.length) (hxi : C.gs[x]? = some ("input", [])) : SetI C C' x b T (pr ++ [(x : Int)]) := by
  refine ⟨s.wc, s.pre, fun k v hk => ?_, s.has, fun n hm => ?_⟩
  · rcases s.key k v hk with q | ⟨q, z⟩
    · exact .inl q
    · exact .inr ⟨List.mem_append_left _ q, z⟩
  rcases List.mem_append.mp hm with q | q
  · exact s.all n q
  simp at q
  have q : n = x := by exact Int.ofNat.inj q
  subst q
  have htn : tau T n = if b then 1 else -1 := by unfold tau; rw [s.has]; rfl
  have hna : (tau T n).natAbs = 1 := by rw [htn]; split <;> rfl
  refine ⟨?_, fun ρ => ?_, ?_, ?_⟩
  · rw [htn]; split
    · exact lit_one s.wc.wg
    · exact lit_neg_one s.wc.wg
  · rw [htn, V_input hxi, upd_self]
    cases b
    · exact Lit_neg_one s.wc.wg
    · exact Lit_one s.wc.wg
  · rw [hna, SU_true s.wc.wg.g1]; exact fun y hy => nomatch hy
  · rw [hna, BE_leaf s.wc.wg.g1 (by decide)]
    intro y hy
    simp at hy
    exact ⟨n, BE_self w.wg h1 h2, by rw [hna, hy]; rfl⟩

theorem turn_abs {p : Int} : (turn T p).natAbs = (tau T p.natAbs).natAbs := by unfold turn; split <;> simp

theorem turn_lit {p : Int} (s : SubOk C C' x b (tau T) p.natAbs) : lit C'.gs (turn T p) := by
  unfold turn; split
  · exact s.li
  · exact s.li.neg
theorem turn_sem {p : Int} (s : SubOk C C' x b (tau T) p.natAbs) (h1 : p ≠ 0) : Lit C'.gs ρ (turn T p) = Lit C.gs (upd ρ x b) p := by
  unfold turn; split
  · rename_i q
    rw [s.sem]
    unfold Lit
    rw [decide_eq_true (show 0 < p from q)]
    cases V C.gs (upd ρ x b) p.natAbs <;> rfl
  · rename_i q
    rw [Lit_neg s.li, s.sem]
    unfold Lit
    rw [decide_eq_false (show ¬ 0 < p from q)]
    cases V C.gs (upd ρ x b) p.natAbs <;> rfl

theorem SetI.turn (w : WC C) (s : SetI C C' x b T pr) (h1 : 1 ≤ h) (hg : C.gs[h]? = some ("and", ps)) (hn : ∀ n : Nat, (n : Int) ∈ pr → 1 ≤ n ∧ n < h) (hx : (h : Int) ≠ x) (hu : (x : Int) ∈ SU C.gs h)
    (hp : ∀ y ∈ BE C.gs h, y < h → y ∈ pr) (a : AllOk C' (ps.map (turn T)) C'' r) : SetI C C'' x b (aPut T h r) (pr ++ [(h : Int)]) := by
  have h2 := get_lt hg
  have q := w.wg.parts h1 hg
  have hsub : ∀ p ∈ ps, SubOk C C' x b (tau T) p.natAbs := fun p hp' => s.all _ (hp _ ((mem_BE_and w.wg h1 hg).mpr (.inr ⟨p, hp', BE_self w.wg (q.ge p hp') (Nat.lt_trans (q.lt p hp') h2)⟩)) (by have := q.lt p hp'; exact Int.ofNat_le.mpr this))
  have hte : ∀ y : Int, y ≠ h → tau (aPut T h r) y = tau T y := fun y hy => by unfold tau; rw [aGet_put_ne hy]
  have hth : tau (aPut T h r) h = r := by unfold tau; rw [aGet_put]; rfl
  refine ⟨a.wc, s.pre.trans a.pre, fun k v hk => ?_, ?_, fun n hm => ?_⟩
  · rcases mem_aPut hk with hk | ⟨rfl, rfl⟩
    · rcases s.key k v hk with q | ⟨q, z⟩
      · exact .inl q
      · exact .inr ⟨List.mem_append_left _ q, z⟩
    · exact .inr ⟨by simp, h, rfl, hu⟩
  · rw [aGet_put_ne (Ne.symm hx)]; exact s.has
  rcases List.mem_append.mp hm with hm | hm
  · have hb := s.all n hm
    by_cases hlt : (n : Int) = h
    · have := hn n hm; exact absurd this.2 (Nat.not_lt_of_le (Nat.le_of_eq (Int.ofNat.inj (Eq.symm hlt))))
    · -- the gates below n lie in the done part or keep what they had
      have hb' := hb.mono s.wc a.pre
      refine ⟨?_, fun ρ => ?_, ?_, ?_⟩
      · rw [hte n hlt]; exact hb'.li
      · rw [hte n hlt]; exact hb'.sem ρ
      · rw [hte n hlt]; exact hb'.su
      · rw [hte n hlt]
        intro y hy
        obtain ⟨h', e1, e2⟩ := hb'.be y hy
        by_cases e : h' = h
        · obtain ⟨z1, z2⟩ := hn n hm
          obtain ⟨m, e3, e4, e5⟩ := BE_range w.wg n z1 (by exact Nat.lt_trans z2 h2) h' e1
          omega
        · exact ⟨h', e1, by rw [hte h' e]; exact e2⟩
  simp at hm
  have hm : n = h := by exact Int.ofNat.inj hm
  subst hm
  have below : ∀ p ∈ ps, ∀ y ∈ BE C''.gs (Mine.turn T p).natAbs, ∃ h' ∈ BE C.gs n, y = (tau (aPut T n r) h').natAbs := fun p hp' y hy => by
    have s1 := (hsub p hp').mono s.wc a.pre
    rw [turn_abs] at hy
    obtain ⟨h', e1, e2⟩ := s1.be y hy
    have hlt : h' ≠ n := fun e => by
      obtain ⟨m, e3, e4, e5⟩ := BE_range w.wg _ (q.ge p hp') (Nat.lt_trans (q.lt p hp') h2) h' e1
      have := q.lt p hp'; omega
    exact ⟨h', (mem_BE_and w.wg h1 hg).mpr (.inr ⟨p, hp', e1⟩), by rw [hte h' hlt]; exact e2⟩
  have supp : ∀ p ∈ ps, ∀ y ∈ SU C''.gs (Mine.turn T p).natAbs, y ∈ SU C.gs n ∧ y ≠ x := fun p hp' y hy => by
    have s1 := (hsub p hp').mono s.wc a.pre
    rw [turn_abs] at hy
    obtain ⟨e1, e2⟩ := s1.su y hy
    exact ⟨(mem_SU_and w.wg h1 hg).mpr ⟨p, hp', e1⟩, e2⟩
  refine ⟨by rw [hth]; exact a.li, fun ρ => ?_, ?_, ?_⟩
  · rw [hth, a.sem, V_and hg q.lt, List.all_map, Bool.eq_iff_iff, List.all_eq_true, List.all_eq_true]
    have e : ∀ p ∈ ps, Lit C'.gs ρ (Mine.turn T p) = Lit C.gs (upd ρ x b) p := fun p hp' => turn_sem (hsub p hp') (by have := q.ge p hp'; exact fun e => Nat.lt_irrefl _ (e ▸ this))
    constructor
    · intro z p hp'; rw [← e p hp']; exact z p hp'
    · intro z p hp'; show Lit C'.gs ρ (Mine.turn T p) = true; rw [e p hp']; exact z p hp'
  · rw [hth]
    intro y hy
    rcases a.form with f | f | ⟨m, qs, f1, f2, f3, f4⟩
    · rw [f, SU_true a.wc.wg.g1] at hy; cases hy
    · obtain ⟨p, hp', e⟩ := List.mem_map.mp f
      exact supp p hp' y (by rw [e]; exact hy)
    · subst f1
      obtain ⟨p', e1, e2⟩ := (mem_SU_and a.wc.wg f2 f3).mp hy
      obtain ⟨p, hp', e⟩ := List.mem_map.mp (f4 p' e1)
      exact supp p hp' y (by rw [e]; exact e2)
  · rw [hth]
    intro y hy
    rcases a.form with f | f | ⟨m, qs, f1, f2, f3, f4⟩
    · rw [f, BE_leaf a.wc.wg.g1 (by decide)] at hy
      simp at hy
      exact ⟨n, BE_self w.wg h1 h2, by rw [hth, f, hy]; rfl⟩
    · obtain ⟨p, hp', e⟩ := List.mem_map.mp f
      exact below p hp' y (by rw [e]; exact hy)
    · subst f1
      rcases (mem_BE_and a.wc.wg f2 f3).mp hy with e | ⟨p', e1, e2⟩
      · exact ⟨n, BE_self w.wg h1 h2, by rw [hth, e]; rfl⟩
      · obtain ⟨p, hp', e⟩ := List.mem_map.mp (f4 p' e1)
        exact below p hp' y (by rw [e]; exact e2)
end
end Mine
end
section
set_option Elab.async false
set_option maxRecDepth 100000
set_option linter.unusedVariables false
set_option linter.unusedSimpArgs false
namespace Mine

section
variable {j : SI} {C : Circ} {hp : HP} {K : AV → HP → Prop} {n : Nat}

theorem trues_mem {F : List Int} {x : Int} : (x ∈ (trues F).map (·.1)) ↔ x ∈ F := by rw [keys_trues]

inductive BlI (j : SI) (a b : Nat) (ST : List Int → List Int → HP) (gs : Gates) (B : List Int) (g0 : Nat) (m : Nat) (l : Loc) (h : HP) : Prop
  | mk (F st : List Int) (l1 : l "self" = some (sAV j)) (l2 : l "found" = some (.ref a)) (l3 : l "stack" = some (.ref b)) (e : h = ST F st) (f1 : F.Nodup) (f2 : ∀ x ∈ F, x ∈ B) (f3 : ∀ x ∈ st, x ∈ B)
      (f4 : ∀ (k : Nat) ps, (k : Int) ∈ F → gs[k]? = some ("and", ps) → ∀ p ∈ ps, (p.natAbs : Int) ∈ F ∨ (p.natAbs : Int) ∈ st) (f5 : (g0 : Int) ∈ F ∨ (g0 : Int) ∈ st) (f6 : m + 64 * F.length = 64 * B.length + st.length) (f7 : m ≤ 5000) : BlI j a b ST gs B g0 m l h
theorem ms_st {m F B s : Nat} (h : m + 64 * F = 64 * B + s) (hF : F ≤ B) : s ≤ m := by omega
theorem ms_pop {m F B s : Nat} (h : m + 64 * F = 64 * B + (s + 1)) (h1 : s + 1 ≤ m) : m - 1 + 64 * F = 64 * B + s := by omega
theorem ms_new {m F B s p : Nat} (h : m + 64 * F = 64 * B + (s + 1)) (hF : F + 1 ≤ B) (hp : p < 64) : m - 65 + p + 64 * (F + 1) = 64 * B + (s + p) ∧ m - 65 + p < m := by omega

theorem below_ok {g : Int} (w : WG C.gs) (hl : lit C.gs g) (hz : C.gs.length ≤ SZ) (h64 : (BE C.gs g.natAbs).length ≤ 63) (hK : K (.fl ((srt (BE C.gs g.natAbs)).map .int)) (putC j.i C hp)) :
    Call P (n + 2) "Counter.below" [sAV j, .int g] (putC j.i C hp) K := by
  refine call2 rfl ?_
  unfold b_Counter_below
  walk_at "go"
  refine g_dict0 fun a ha => ?_
  walk_at "go"
  intro b hb
  rw [show (if false = true then AObj.dT [] else .dI []) = .dI (trues []) from rfl] at hb ⊢
  obtain ⟨a1, a2, a3, a4⟩ := putC_fresh ha
  rw [putC_comm a1 a2 a3] at hb ⊢
  obtain ⟨b1, b2, b3, b4⟩ := putC_fresh hb
  rw [putC_comm b1 b2 b3]
  walk_at "go"
  have hba : b ≠ a := fun e => by subst e; rw [HP.set_self] at b4; cases b4
  have b5 : hp b = none := by rw [HP.set_ne hba] at b4; exact b4
  -- the state of the walk
  let ST : List Int → List Int → HP := fun F st => putC j.i C ((hp.set a (.dI (trues F))).set b (.list (st.map .int)))
  have hSa : ∀ F st, ST F st a = some (.dI (trues F)) := fun F st => by show putC _ _ _ _ = _; rw [putC_ne ⟨a1, a2, a3⟩, HP.set_ne (Ne.symm hba), HP.set_self]
  have hSb : ∀ F st, ST F st b = some (.list (st.map .int)) := fun F st => by show putC _ _ _ _ = _; rw [putC_ne ⟨b1, b2, b3⟩, HP.set_self]
  have sSa : ∀ F F' st, (ST F st).set a (.dI (trues F')) = ST F' st := fun F F' st => by
    show (putC _ _ _).set _ _ = putC _ _ _; rw [putC_comm a1 a2 a3, set_comm hba, set_set]
  have sSb : ∀ F st st', (ST F st).set b (.list (st'.map .int)) = ST F st' := fun F st st' => by
    show (putC _ _ _).set _ _ = putC _ _ _; rw [putC_comm b1 b2 b3, set_set]
  have sub : ∀ F st, HP.Sub (putC j.i C hp) (ST F st) := fun F st => putC_sub (fun c o e => by
    have h1 : c ≠ a := fun q => by subst q; rw [a4] at e; cases e
    have h2 : c ≠ b := fun q => by subst q; rw [b5] at e; cases e
    rw [HP.set_ne h2, HP.set_ne h1]; exact e)
  let g0 := g.natAbs
  let B := BE C.gs g0
  have hB63 : B.length ≤ 63 := h64
  have hB : B.Nodup := BE_nodup w hl.1 hl.2
  refine wpWhile_ind (BlI j a b ST C.gs B g0)
    (fun Q m l h hQ hI => ?_) (m := 64 * B.length + 1) ⟨[], [(g0 : Int)], by walk_at "lk", by walk_at "lk", by walk_at "lk", rfl, List.nodup_nil, by simp, by simpa using BE_self w hl.1 hl.2, by simp, by simp, by simp, Nat.le_trans (Nat.succ_le_succ (Nat.mul_le_mul_left 64 hB63)) (by decide)⟩
  obtain ⟨F, st, l1, l2, l3, rfl, f1, f2, f3, f4, f5, f6, f7⟩ := hI
  have hFl : F.length ≤ B.length := len_le_of_sub f1 f2
  walk_at "go"
  refine g_len (ln_r (hSb _ _)) (by rw [List.length_map]; exact Nat.le_trans (Nat.le_trans (ms_st f6 hFl) f7) (by decide)) ?_
  walk_at "go"
  rw [List.length_map]
  rcases List.eq_nil_or_concat st with rfl | ⟨st', x, rfl⟩
  · -- done
    refine g_dneg (by decide) ?_
    have hperm : F.Perm B := by
      refine perm_of_mem f1 hB fun x => ⟨f2 x, fun hx => ?_⟩
      refine BE_least w (F := fun x => x ∈ F) (fun k ps hk hk1 hps p hp => ?_) g0 hl.1 hl.2 (by simpa using f5) x hx
      have := f4 k ps hk hps p hp
      simpa using this
    walk_at "go"
    refine g_sorted (ko_r (hSa _ _)) (by rw [keys_trues]; exact Nat.lt_succ_of_le (Nat.le_trans hFl hB63)) fun out p1 p2 => ?_
    rw [keys_trues] at p1
    walk_at "go"
    refine g_fin (sub _ _) ?_
    rw [srt_eq (p1.trans hperm) p2]; exact hK
  · refine g_dpos (by simp) ?_
    have hx : x ∈ B := f3 x (by simp)
    obtain ⟨k, rfl, k1, k2⟩ := BE_range w g0 hl.1 hl.2 x hx
    have hkl : k < C.gs.length := Nat.lt_of_le_of_lt k2 hl.2
    have f6' : m + 64 * F.length = 64 * B.length + (st'.length + 1) := by simpa using f6
    have hst : st'.length + 1 ≤ m := ms_st f6' hFl
    walk_at "go"
    refine g_tpop (hSb _ _) ?_
    walk_at "go"
    refine g_pop (xs := st'.map .int) (v := .int k) ((hSb _ _).trans (by rw [List.concat_eq_append, List.map_append]; rfl)) (by rw [List.length_map]; exact Nat.le_trans (Nat.le_of_succ_le hst) (Nat.le_trans f7 (by decide))) ?_
    rw [sSb]
    walk_at "go"
    have hin : hasKey (.int (k : Int)) (.ref a) (ST F st') = some (decide ((k : Int) ∈ F)) := by rw [hk_r (hSa _ _)]; unfold inK; rw [keys_trues]
    refine g_nin hin ?_
    walk_at "go"
    have hsub : ∀ y, y ∈ st' → y ∈ st'.concat (k : Int) := fun y hy => by simp [hy]
    have hcc : ∀ y, y ∈ st'.concat (k : Int) → y ∈ st' ∨ y = k := fun y hy => by simpa using hy
    by_cases hk : (k : Int) ∈ F
    · refine g_nega (by rw [decide_eq_true hk]; rfl) ?_
      walk_at "go"
      refine ⟨_, HP.Sub.refl _, hQ (m - 1) _ _ (by exact Nat.sub_one_lt_of_lt hst) ⟨F, st', by walk_at "lk", by walk_at "lk", by walk_at "lk", rfl, f1, f2, fun x hx => f3 x (hsub x hx), ?_, ?_, ms_pop f6' hst, by exact Nat.le_trans (Nat.sub_le _ _) f7⟩⟩
      · intro k' ps h1 h2 p h3
        rcases f4 k' ps h1 h2 p h3 with q | q
        · exact .inl q
        · rcases hcc _ q with q | q
          · exact .inr q
          · left; rw [q]; exact hk
      · rcases f5 with q | q
        · exact .inl q
        · rcases hcc _ q with q | q
          · exact .inr q
          · left; rw [q]; exact hk
    · refine g_pos (by rw [decide_eq_false hk]; rfl) ?_
      have hF' : (F ++ [(k : Int)]).Nodup := by
        rw [List.nodup_append]
        exact ⟨f1, by simp, fun a ha b hb e => by simp at hb; subst hb; subst e; exact hk ha⟩
      have hFB : ∀ x ∈ F ++ [(k : Int)], x ∈ B := fun y hy => by
        rcases List.mem_append.mp hy with q | q
        · exact f2 y q
        · simp at q; rw [q]; exact hx
      have hF'l := len_le_of_sub hF' hFB
      rw [List.length_append, List.length_singleton] at hF'l
      walk_at "go"
      refine g_setI (hSa _ _) (by rw [trues_len]; exact Nat.le_trans hFl (Nat.le_trans hB63 (by decide))) ?_
      rw [aPut_trues, if_neg hk, sSa]
      walk_at "go"
      have hg := List.getElem?_eq_getElem hkl
      have hks : small (((k : Int).natAbs : Nat) : Int) := small_of (Int.natCast_nonneg _) (Int.le_trans (Int.ofNat_le.mpr (Nat.le_of_lt (Nat.lt_of_lt_of_le hkl hz))) (by decide))
      refine kind_ok (g := (k : Int)) hg hks ?_
      walk_at "go"
      have hcl : ∀ st2 : List Int, (∀ y ∈ st', y ∈ st2) → ∀ (k' : Nat) ps, k' ≠ k → (k' : Int) ∈ F ++ [(k : Int)] → C.gs[k']? = some ("and", ps) → ∀ p ∈ ps, (p.natAbs : Int) ∈ F ++ [(k : Int)] ∨ (p.natAbs : Int) ∈ st2 := fun st2 hst2 k' ps hne h1 h2 p h3 => by
        rcases List.mem_append.mp h1 with q | q
        · rcases f4 k' ps q h2 p h3 with z | z
          · exact .inl (List.mem_append_left _ z)
          · rcases hcc _ z with z | z
            · exact .inr (hst2 _ z)
            · left; rw [z]; exact List.mem_append_right _ List.mem_cons_self
        · exact absurd (Int.ofNat_inj.mp (List.mem_singleton.mp q)) hne
      have hg0 : ∀ st2 : List Int, (∀ y ∈ st', y ∈ st2) → (g0 : Int) ∈ F ++ [(k : Int)] ∨ (g0 : Int) ∈ st2 := fun st2 hst2 => by
        rcases f5 with z | z
        · exact .inl (List.mem_append_left _ z)
        · rcases hcc _ z with z | z
          · exact .inr (hst2 _ z)
          · left; rw [z]; exact List.mem_append_right _ List.mem_cons_self
      by_cases hkind : C.gs[k].1 = "and"
      · refine g_dpos hkind ?_
        walk_at "go"
        refine g_textend (hSb _ _) ?_
        walk_at "go"
        refine parts_ok (g := (k : Int)) hg hks ?_
        have hga : C.gs[k]? = some ("and", C.gs[k].2) := by rw [hg, ← hkind]
        have hpl := parts_len w k1 hga
        have hkB : (BE C.gs k).length ≤ B.length := len_le_of_sub (BE_nodup w k1 hkl) (BE_trans w hl.1 hl.2 hx)
        have hp63 : C.gs[k].2.length < 64 := Nat.lt_succ_of_le (Nat.le_trans (Nat.le_of_lt hpl) (Nat.le_trans hkB hB63))
        have hms := ms_new f6' hF'l hp63
        refine ⟨_, rfl, by rw [List.length_map]; exact Nat.le_trans (Nat.le_of_lt hp63) (by decide), ?_⟩
        refine wpComp_pure (f := fun p : Int => AV.int p.natAbs) (fun p hp => ⟨_, rfl, fun K hK => ?_⟩) ?_
        · walk_at "go"; exact hK
        · walk_at "go"
          refine g_extend (hSb _ _) (by rw [List.nil_append, List.length_map, List.length_map]; exact Nat.le_trans (Nat.add_le_add (Nat.le_trans (Nat.le_of_succ_le hst) f7) (Nat.le_of_lt hp63)) (by decide)) ?_
          have e : (st'.map AV.int ++ ([] ++ C.gs[k].2.map (fun p : Int => AV.int (p.natAbs : Int)))) = (st' ++ C.gs[k].2.map fun p => (p.natAbs : Int)).map .int := by rw [List.nil_append, List.map_append, List.map_map]; rfl
          rw [e, sSb]
          walk_at "go"
          refine ⟨_, HP.Sub.refl _, hQ (m - 65 + C.gs[k].2.length) _ _ hms.2 ⟨F ++ [(k : Int)], _, by walk_at "lk", by walk_at "lk", by walk_at "lk", rfl, hF', hFB, ?_, ?_, hg0 _ fun y hy => List.mem_append_left _ hy, ?_, Nat.le_trans (Nat.le_of_lt hms.2) f7⟩⟩
          · intro y hy
            rcases List.mem_append.mp hy with q | q
            · exact f3 y (hsub y q)
            · obtain ⟨p, hp, rfl⟩ := List.mem_map.mp q
              exact BE_closed w g0 hl.1 hl.2 k hx _ hga p hp
          · intro k' ps h1 h2 p h3
            by_cases hne : k' = k
            · subst hne
              rw [hga] at h2; cases h2
              exact .inr (List.mem_append_right _ (List.mem_map.mpr ⟨p, h3, rfl⟩))
            · exact hcl _ (fun y hy => List.mem_append_left _ hy) k' ps hne h1 h2 p h3
          · rw [List.length_append, List.length_append, List.length_map, List.length_singleton]; exact hms.1
      · refine g_dneg hkind ?_
        walk_at "go"
        refine ⟨_, HP.Sub.refl _, hQ (m - 65) _ _ (ms_new f6' hF'l (p := 0) (by decide)).2 ⟨F ++ [(k : Int)], st', by walk_at "lk", by walk_at "lk", by walk_at "lk", rfl, hF', hFB, fun x hx => f3 x (hsub x hx), ?_, hg0 _ fun y hy => hy, by rw [List.length_append, List.length_singleton]; exact (ms_new f6' hF'l (p := 0) (by decide)).1, by exact Nat.le_trans (Nat.sub_le _ _) f7⟩⟩
        intro k' ps h1 h2 p h3
        by_cases hne : k' = k
        · subst hne
          rw [hg] at h2
          exact absurd (congrArg Prod.fst (Option.some.inj h2)) hkind
        · exact hcl _ (fun y hy => hy) k' ps hne h1 h2 p h3
end
end Mine
end
section
set_option Elab.async false
set_option maxRecDepth 100000
set_option linter.unusedVariables false
set_option linter.unusedSimpArgs false
namespace Mine

structure SuOk (gs : Gates) (su : List (Int × List Int)) : Prop where
  ok : ∀ k v, (k, v) ∈ su → ∃ n : Nat, k = n ∧ 1 ≤ n ∧ n < gs.length ∧ v = SU gs n
  nd : (su.map (·.1)).Nodup

theorem keys_len {V : Type} {l : List (Int × V)} {m : Nat} (h1 : ∀ k v, (k, v) ∈ l → ∃ n : Nat, k = n ∧ n < m) (h2 : (l.map (·.1)).Nodup) : l.length ≤ m := by
  have := len_le_of_sub (m := (List.range m).map fun (n : Nat) => (n : Int)) h2 fun x hx => by
    obtain ⟨kv, hkv, rfl⟩ := List.mem_map.mp hx
    obtain ⟨n, e, hn⟩ := h1 kv.1 kv.2 hkv
    exact List.mem_map.mpr ⟨n, by simpa using hn, e.symm⟩
  simpa using this
theorem SuOk.len {gs : Gates} {su : List (Int × List Int)} (s : SuOk gs su) : su.length ≤ gs.length :=
  keys_len (fun k v h => by obtain ⟨n, a, _, b, _⟩ := s.ok k v h; exact ⟨n, a, b⟩) s.nd
theorem SuOk.get {gs : Gates} {su : List (Int × List Int)} (s : SuOk gs su) {n : Nat} (h : (n : Int) ∈ su.map (·.1)) : aGet su (n : Int) = some (SU gs n) := by
  obtain ⟨kv, hkv, e⟩ := List.mem_map.mp h
  obtain ⟨v, hv⟩ := aGet_isSome (kvs := su) (k := kv.1) (v := kv.2) hkv
  rw [e] at hv
  obtain ⟨m, e1, _, _, e2⟩ := s.ok _ _ (aGet_mem hv)
  have e1 : n = m := by exact Int.ofNat.inj e1
  subst e1
  rw [hv, e2]
theorem nodup_put {V : Type} {l : List (Int × V)} {k : Int} {v : V} (h1 : (l.map (·.1)).Nodup) (h2 : k ∉ l.map (·.1)) : ((l ++ [(k, v)]).map (·.1)).Nodup := by
  rw [List.map_append, List.nodup_append]
  exact ⟨h1, by simp, fun a ha b hb e => by simp at hb; subst hb; subst e; exact h2 ha⟩
theorem notin_keys {V : Type} {l : List (Int × V)} {k : Int} (h : k ∉ l.map (·.1)) : ∀ x, (k, x) ∉ l := fun x hx => h (List.mem_map.mpr ⟨_, hx, rfl⟩)
theorem SuOk.put {gs : Gates} {su : List (Int × List Int)} (s : SuOk gs su) {n : Nat} (h : (n : Int) ∉ su.map (·.1)) (h1 : 1 ≤ n) (h2 : n < gs.length) : SuOk gs (su ++ [((n : Int), SU gs n)]) := by
  refine ⟨fun k v hm => ?_, nodup_put s.nd h⟩
  rcases List.mem_append.mp hm with q | q
  · exact s.ok k v q
  · simp at q; exact ⟨n, q.1, h1, h2, q.2⟩
theorem SuOk.mono {gs gs' : Gates} {su : List (Int × List Int)} (s : SuOk gs su) (p : gs <+: gs') : SuOk gs' su :=
  ⟨fun k v h => by obtain ⟨n, a, b, c, d⟩ := s.ok k v h; exact ⟨n, a, b, Nat.lt_of_lt_of_le c p.length_le, by rw [SU_stable p c]; exact d⟩, s.nd⟩

theorem aMerge_trues : ∀ {ks F : List Int}, aMerge (trues F) (trues ks) = trues (kM F ks)
  | [], F => rfl
  | k :: ks, F => by
    show aMerge (aPut (trues F) k (.bool true)) (trues ks) = trues (kM (if k ∈ F then F else F ++ [k]) ks)
    rw [aPut_trues, aMerge_trues]
theorem frozen_trues {F : List Int} : frozen (.dI (trues F)) = some (.fd F) := by
  unfold frozen
  dsimp only
  rw [if_pos, keys_trues]
  rw [List.all_eq_true]
  intro x hx
  obtain ⟨y, _, rfl⟩ := List.mem_map.mp hx
  rfl

section
variable {j : SI} {C : Circ} {S : Tabs} {hp : HP} {K : AV → HP → Prop} {n : Nat}

theorem suL_keys {l : List (Int × List Int)} : (suL l).map (·.1) = l.map (·.1) := by unfold suL; rw [List.map_map]; rfl
theorem suL_get {l : List (Int × List Int)} {k : Int} : aGet (suL l) k = (aGet l k).map .fd := aGet_map _ _ _

theorem kM_len : ∀ {ks F : List Int}, (kM F ks).length ≤ F.length + ks.length
  | [], F => by simp [kM]
  | k :: ks, F => by
    have := kM_len (ks := ks) (F := if k ∈ F then F else F ++ [k])
    show (kM (if k ∈ F then F else F ++ [k]) ks).length ≤ _
    split at this <;> simp at this ⊢
    · rename_i h; rw [if_pos h]; exact Nat.le_succ_of_le this
    · rename_i h; rw [if_neg h]; omega

theorem SU_len (w : WG C.gs) {i : Nat} (h1 : 1 ≤ i) (h2 : i < C.gs.length) : (SU C.gs i).length ≤ C.gs.length := by
  have := len_le_of_sub (m := (List.range C.gs.length).map fun (n : Nat) => (n : Int)) (SU_nodup w h1 h2) fun x hx => by
    obtain ⟨n, e, _, a, _⟩ := SU_inputs w i h1 h2 x hx
    exact List.mem_map.mpr ⟨n, by simp; exact Nat.lt_of_le_of_lt a h2, e.symm⟩
  simpa using this

theorem kind_okS {g : Int} {q : String × List Int} (hg : C.gs[g.natAbs]? = some q) (hs : small g.natAbs) (hK : K (.str q.1) (putS j C S hp)) :
    Call P (n + 1) "Circuit.kind" [cAV j.i, .int g] (putS j C S hp) K := kind_ok hg hs hK
theorem parts_okS {g : Int} {q : String × List Int} (hg : C.gs[g.natAbs]? = some q) (hs : small g.natAbs) (hK : K (.tup (q.2.map .int)) (putS j C S hp)) :
    Call P (n + 1) "Circuit.parts" [cAV j.i, .int g] (putS j C S hp) K := parts_ok hg hs hK

theorem gathered_ok {h : Nat} (w : WG C.gs) (s : SuOk C.gs S.su) (h1 : 1 ≤ h) (h2 : h < C.gs.length) (hz : C.gs.length * 2 ≤ SZ)
    (hp' : ∀ ps, C.gs[h]? = some ("and", ps) → ∀ p ∈ ps, (p.natAbs : Int) ∈ S.su.map (·.1)) (hK : K (.fd (SU C.gs h)) (putS j C S hp)) :
    Call P (n + 2) "Counter.gathered" [sAV j, .int h] (putS j C S hp) K := by
  refine call2 rfl ?_
  unfold b_Counter_gathered
  walk_at "go"
  obtain ⟨g, hg⟩ : ∃ g, C.gs[h]? = some g := ⟨_, List.getElem?_eq_getElem h2⟩
  have hsm : small ((h : Int).natAbs) := small_of (by exact Int.natCast_nonneg _) (by unfold SZ at hz; omega)
  refine kind_okS (g := (h : Int)) hg hsm ?_
  walk_at "go"
  refine g_dict0 fun a ha => ?_
  obtain ⟨fa, ha⟩ := putS_fresh ha
  have hga : ∀ o, putS j C S (hp.set a o) a = some o := fun o => by rw [putS_get fa, HP.set_self]
  have sga : ∀ o o', (putS j C S (hp.set a o)).set a o' = putS j C S (hp.set a o') := fun o o' => by rw [putS_comm fa, set_set]
  rw [show (if false = true then AObj.dT [] else .dI []) = .dI (trues []) from rfl, putS_comm fa]
  have sub : ∀ o, HP.Sub (putS j C S hp) ((putS j C S (hp.set a o)).del a) := fun o c q e => by
    have hca : c ≠ a := fun z => by subst z; rw [putS_get fa, ha] at e; cases e
    unfold HP.del
    rw [if_neg hca]
    exact putS_new ha _ _ e
  walk_at "go"
  cases w.kind h1 h2 with
  | tru e hk =>
    rw [hk] at hg
    have hg := Option.some.inj hg
    subst hg
    refine g_dneg (by decide) ?_
    walk_at "go"
    refine g_dneg (by decide) ?_
    walk_at "go"
    refine g_frz (by walk_at "lk") (hga _) frozen_trues ?_
    walk_at "go"
    refine g_fin (sub _) ?_
    rw [SU_true hk] at hK; exact hK
  | inp e hk =>
    rw [hk] at hg
    have hg := Option.some.inj hg
    subst hg
    refine g_dpos rfl ?_
    walk_at "go"
    refine g_setI (hga _) (Nat.zero_le _) ?_
    rw [aPut_trues, sga]
    walk_at "go"
    refine g_frz (by walk_at "lk") (hga _) frozen_trues ?_
    walk_at "go"
    refine g_fin (sub _) ?_
    rw [SU_input hk] at hK; exact hK
  | con ps e hk q =>
    rw [hk] at hg
    have hg := Option.some.inj hg
    subst hg
    refine g_dneg (show ¬ "and" = "input" by decide) ?_
    walk_at "go"
    refine g_dpos rfl ?_
    walk_at "go"
    refine parts_okS (g := (h : Int)) (q := ("and", ps)) hk hsm ?_
    refine ⟨_, rfl, ?_⟩
    refine wpFor_ind (fun xs l h => ∃ F ps1 ps2, xs = ps2.map .int ∧ ps1 ++ ps2 = ps ∧ l "self" = some (sAV j) ∧ l "found" = some (.ref a) ∧ h = putS j C S (hp.set a (.dI (trues F))) ∧ F = unionF (SU C.gs) [] ps1)
      (fun l h hI => ?_) (fun Q x xs l h hQ hI => ?_) ⟨[], [], ps, rfl, rfl, by walk_at "lk", by walk_at "lk", rfl, rfl⟩
    · obtain ⟨F, ps1, ps2, e1, e2, l1, l2, rfl, e3⟩ := hI
      have : ps2 = [] := by cases ps2 with | nil => rfl | cons _ _ => cases e1
      subst this
      rw [List.append_nil] at e2
      subst e2
      walk_at "go"
      refine g_frz (by walk_at "lk") (hga _) frozen_trues ?_
      walk_at "go"
      refine g_fin (sub _) ?_
      rw [e3, ← SU_and hk q.lt]; exact hK
    · obtain ⟨F, ps1, ps2, e1, e2, l1, l2, rfl, e3⟩ := hI
      cases ps2 with
      | nil => cases e1
      | cons p ps2 =>
      simp only [List.map_cons, List.cons.injEq] at e1
      obtain ⟨rfl, rfl⟩ := e1
      refine ⟨_, rfl, ?_⟩
      have hpm : p ∈ ps := by rw [← e2]; simp
      have hpl := Nat.lt_trans (q.lt p hpm) h2
      have hFs : ∀ x ∈ F, x ∈ SU C.gs h := fun x hx => by
        rw [e3, mem_unionF] at hx
        rcases hx with hx | ⟨p', hp', hx⟩
        · cases hx
        · exact (mem_SU_and w h1 hk).mpr ⟨p', by rw [← e2]; exact List.mem_append_left _ hp', hx⟩
      have hFn : F.Nodup := by rw [e3]; exact nodup_unionF List.nodup_nil
      have hFl := len_le_of_sub hFn hFs
      have hSl := SU_len w h1 h2
      have hSp := SU_len w (q.ge p hpm) hpl
      walk_at "go"
      refine g_tupdate (hga _) ?_
      walk_at "go"
      refine g_gi (v := .fd (SU C.gs p.natAbs)) (by rw [ix_su, s.get (hp' ps hk p hpm)]; rfl) (small_of (by exact Int.natCast_nonneg _) (by unfold SZ at hz; omega)) ?_
      walk_at "go"
      refine g_update (hga _) (by rw [trues_len]; omega) ?_
      walk_at "go"
      refine ⟨_, HP.Sub.refl _, hQ _ _ ⟨_, ps1 ++ [p], ps2, rfl, by rw [List.append_assoc]; exact e2, by walk_at "lk", by walk_at "lk", ?_, rfl⟩⟩
      rw [show ((SU C.gs p.natAbs).map fun k => (k, AV.bool true)) = trues (SU C.gs p.natAbs) from rfl, aMerge_trues, sga]
      unfold unionF at e3 ⊢
      rw [List.foldl_append, ← e3]; rfl
end
end Mine
end
section
set_option Elab.async false
set_option maxRecDepth 100000
set_option linter.unusedVariables false
set_option linter.unusedSimpArgs false
namespace Mine

section
variable {j : SI} {C : Circ} {S : Tabs} {hp : HP} {K : AV → HP → Prop} {n : Nat}

theorem srt_split {B : List Int} {pr rest : List Int} {h : Int} (hB : B.Nodup) (e : pr ++ h :: rest = srt B) : (∀ y ∈ B, y < h → y ∈ pr) ∧ (∀ y ∈ pr, y < h) ∧ h ∈ B ∧ (∀ y ∈ pr, y ∈ B) ∧ h ∉ pr := by
  have hs := srt_sorted B
  have hn : (srt B).Nodup := (srt_perm B).nodup_iff.mpr hB
  rw [← e] at hs hn
  have hm : ∀ y, y ∈ pr ++ h :: rest ↔ y ∈ B := fun y => by rw [e]; exact mem_srt
  rw [List.pairwise_append] at hs
  rw [List.nodup_append] at hn
  obtain ⟨_, hs2, hs3⟩ := hs
  obtain ⟨_, hn2, hn3⟩ := hn
  rw [List.pairwise_cons] at hs2
  have hnp : h ∉ pr := fun q => hn3 h q h List.mem_cons_self rfl
  refine ⟨fun y hy hlt => ?_, fun y hy => ?_, (hm h).mp (by simp), fun y hy => (hm y).mp (List.mem_append_left _ hy), hnp⟩
  · rcases List.mem_append.mp ((hm y).mpr hy) with q | q
    · exact q
    · rcases List.mem_cons.mp q with q | q
      · exact absurd q (Int.ne_of_lt hlt)
      · have := hs2.1 y q; omega
  · have h1 := hs3 y hy h List.mem_cons_self
    have h2 : y ≠ h := fun q => hnp (q ▸ hy)
    omega

/-- all that a walk over the gate g asks of the circuit -/
structure GOk (C : Circ) (g : Int) : Prop where
  wg : WG C.gs
  li : lit C.gs g
  sz : C.gs.length * 2 ≤ SZ
  b63 : (BE C.gs g.natAbs).length ≤ 63

theorem support_ok {g : Int} (G : GOk C g) (s : SuOk C.gs S.su) (hK : ∀ su, SuOk C.gs su → K (.fd (SU C.gs g.natAbs)) (putS j C { S with su := su } hp)) :
    Call P (n + 3) "Counter.support" [sAV j, .int g] (putS j C S hp) K := by
  obtain ⟨w, hl, hz, h63⟩ := G
  refine call2 rfl ?_
  unfold b_Counter_support
  have hsm : small g.natAbs := small_of (by exact Int.natCast_nonneg _) (by have := hl.2; unfold SZ at hz; omega)
  walk_at "go"
  refine g_nin hk_su ?_
  walk_at "go"
  by_cases hin : (g.natAbs : Int) ∈ S.su.map (·.1)
  · refine g_nega (by rw [inK_t hin]; rfl) ?_
    walk_at "go"
    refine g_gi (v := .fd (SU C.gs g.natAbs)) (by rw [ix_su, s.get hin]; rfl) hsm ?_
    walk_at "go"
    exact g_fin0 (hK S.su s)
  · refine g_pos (by rw [inK_f hin]; rfl) ?_
    walk_at "go"
    refine below_ok (j := j) w hl (by exact Nat.le_trans (Nat.le_add_left _ _) hz) h63 ?_
    refine ⟨_, rfl, ?_⟩
    have hB := BE_nodup w hl.1 hl.2
    refine wpFor_ind (fun xs l h => ∃ su pr rest, xs = rest.map .int ∧ pr ++ rest = srt (BE C.gs g.natAbs) ∧ l "self" = some (sAV j) ∧ l "gate" = some (.int g) ∧ h = putS j C { S with su := su } hp ∧ SuOk C.gs su ∧ ∀ y ∈ pr, y ∈ su.map (·.1))
      (fun l h hI => ?_) (fun Q x xs l h hQ hI => ?_) ⟨S.su, [], _, rfl, rfl, by walk_at "lk", by walk_at "lk", rfl, s, fun y hy => nomatch hy⟩
    · obtain ⟨su, pr, rest, e1, e2, l1, l2, rfl, s1, h1⟩ := hI
      have : rest = [] := by cases rest with | nil => rfl | cons _ _ => cases e1
      subst this
      rw [List.append_nil] at e2
      have hin' : (g.natAbs : Int) ∈ su.map (·.1) := h1 _ (by rw [e2]; exact mem_srt.mpr (BE_self w hl.1 hl.2))
      walk_at "go"
      refine g_gi (v := .fd (SU C.gs g.natAbs)) (by rw [ix_su, s1.get hin']; rfl) hsm ?_
      walk_at "go"
      exact g_fin0 (hK su s1)
    · obtain ⟨su, pr, rest, e1, e2, l1, l2, rfl, s1, h1⟩ := hI
      cases rest with
      | nil => cases e1
      | cons x' rest =>
      simp only [List.map_cons, List.cons.injEq] at e1
      obtain ⟨rfl, rfl⟩ := e1
      obtain ⟨p1, p2, p3, p4, p5⟩ := srt_split hB e2
      obtain ⟨h, rfl, k1, k2⟩ := BE_range w _ hl.1 hl.2 x' p3
      have k3 : h < C.gs.length := Nat.lt_of_le_of_lt k2 hl.2
      have e2' : (pr ++ [(h : Int)]) ++ rest = srt (BE C.gs g.natAbs) := by rw [List.append_assoc]; exact e2
      refine ⟨_, rfl, ?_⟩
      walk_at "go"
      refine g_nin hk_su ?_
      walk_at "go"
      by_cases hh : (h : Int) ∈ su.map (·.1)
      · refine g_nega (by rw [inK_t hh]; rfl) ?_
        walk_at "go"
        refine ⟨_, HP.Sub.refl _, hQ _ _ ⟨su, pr ++ [(h : Int)], rest, rfl, e2', by walk_at "lk", by walk_at "lk", rfl, s1, fun y hy => ?_⟩⟩
        rcases List.mem_append.mp hy with q | q
        · exact h1 y q
        · rw [List.mem_singleton.mp q]; exact hh
      · refine g_pos (by rw [inK_f hh]; rfl) ?_
        walk_at "go"
        refine gathered_ok w s1 k1 k3 hz (fun ps hps p hp => h1 _ (p1 _ (BE_closed w _ hl.1 hl.2 h p3 ps hps p hp) (by have := (w.parts k1 hps).lt p hp; exact Int.ofNat_le.mpr this))) ?_
        walk_at "go"
        refine g_setI putS3 (by unfold suL; rw [List.length_map]; have := s1.len; show su.length ≤ SZ; exact Nat.le_trans this (Nat.le_trans (Nat.le_mul_of_pos_right _ (by decide)) hz)) ?_
        have ea : aPut (suL su) h (.fd (SU C.gs h)) = suL (su ++ [((h : Int), SU C.gs h)]) := by
          rw [aPut_new (notin_keys (by rw [suL_keys]; exact hh))]; unfold suL; rw [List.map_append]; rfl
        dsimp only
        rw [ea, putS_set3]
        walk_at "go"
        refine ⟨_, HP.Sub.refl _, hQ _ _ ⟨_, pr ++ [(h : Int)], rest, rfl, e2', by walk_at "lk", by walk_at "lk", rfl, s1.put hh k1 k3, fun y hy => ?_⟩⟩
        rw [List.map_append, List.mem_append]
        rcases List.mem_append.mp hy with q | q
        · exact .inl (h1 y q)
        · right; rw [List.mem_singleton.mp q]; exact List.mem_cons_self

theorem turned_ok {p : Int} {T : List (Int × Int)} {a : Nat} (ha : hp a = some (.dI (knL T))) (hK : K (.int (turn T p)) hp) :
    Call P (n + 1) "Counter.turned" [sAV j, .int p, .ref a] hp K := by
  refine call3 rfl ?_
  unfold b_Counter_turned
  walk_at "go"
  refine g_tget ha ?_
  walk_at "go"
  refine g_get ha ?_
  walk_at "go"
  have e : (aGet (knL T) (p.natAbs : Int)).getD (.int p.natAbs) = .int (tau T p.natAbs) := by
    unfold knL tau; rw [aGet_map]; cases aGet T (p.natAbs : Int) <;> rfl
  rw [e]
  unfold turn at hK
  by_cases hp' : p > 0
  · rw [if_pos hp'] at hK
    refine g_dpos hp' ?_
    walk_at "go"
    exact g_fin0 hK
  · rw [if_neg hp'] at hK
    refine g_dneg hp' ?_
    walk_at "go"
    exact g_fin0 hK
end
end Mine
end
section
set_option Elab.async false
set_option maxRecDepth 100000
set_option linter.unusedVariables false
set_option linter.unusedSimpArgs false
namespace Mine

noncomputable def Room (C : Circ) (k : Nat) : Prop := C.gs.length + k ≤ 4000000 ∧ C.known.length + k ≤ 4000000
theorem Room.less {C : Circ} {k m : Nat} (h : Room C k) (e : m ≤ k) : Room C m := ⟨by have := h.1; exact Nat.le_trans (Nat.add_le_add_left e _) this, by have := h.2; exact Nat.le_trans (Nat.add_le_add_left e _) this⟩
theorem Room.sz {C : Circ} {k : Nat} (h : Room C k) : C.gs.length * 2 ≤ SZ ∧ C.gs.length < SZ ∧ C.known.length < SZ := by
  have h1 := h.1; have h2 := h.2; unfold SZ; omega
theorem Room.allOf {C : Circ} {k : Nat} {gs : List Int} (h : Room C (k + 1)) : Room (allOf C gs).1 k := by
  unfold Mine.allOf
  split
  · exact h.less (by exact Nat.le_add_right _ _)
  · split
    · exact h.less (by exact Nat.le_add_right _ _)
    · split
      · exact h.less (by omega)
      · obtain ⟨h1, h2⟩ := h
        constructor
        · simp; exact by rw [Nat.add_right_comm]; exact h1
        · simp; exact by rw [Nat.add_right_comm]; exact h2

theorem aPut_len {V : Type} {l : List (Int × V)} {k : Int} {v : V} : (aPut l k v).length ≤ l.length + 1 := by
  unfold aPut; split <;> simp
theorem aPut_map {V W : Type} (f : V → W) {l : List (Int × V)} {k : Int} {v : V} : aPut (l.map fun kv => (kv.1, f kv.2)) k (f v) = (aPut l k v).map fun kv => (kv.1, f kv.2) := by
  unfold aPut
  have e : (l.map fun kv => (kv.1, f kv.2)).any (fun kv => decide (kv.1 = k)) = l.any (fun kv => decide (kv.1 = k)) := by rw [List.any_map]; rfl
  rw [e]
  split
  · rw [List.map_map, List.map_map]
    apply List.map_congr_left
    intro x _
    simp only [Function.comp]
    split <;> rfl
  · simp

structure SettledOk (C C' : Circ) (g : Nat) (x : Nat) (b : Bool) (r : Int) : Prop where
  wc : WC C'
  pre : C.gs <+: C'.gs
  li : lit C'.gs r
  sem : ∀ ρ, Lit C'.gs ρ r = V C.gs (upd ρ x b) g
  su : ∀ y ∈ SU C'.gs r.natAbs, y ∈ SU C.gs g ∧ y ≠ x
  be : (BE C'.gs r.natAbs).length ≤ (BE C.gs g).length

section
variable {j : SI} {C : Circ} {S : Tabs} {hp : HP} {K : AV → HP → Prop} {n : Nat}

theorem GOk.mono {C' : Circ} {g : Int} (G : GOk C g) (w : WG C'.gs) (p : C.gs <+: C'.gs) (hz : C'.gs.length * 2 ≤ SZ) : GOk C' g :=
  ⟨w, G.li.mono p, hz, by rw [BE_stable p G.li.2]; exact G.b63⟩

inductive SeI (j : SI) (C : Circ) (S : Tabs) (hp : HP) (k g x a : Nat) (b : Bool) (xs : List AV) (l : Loc) (h : HP) : Prop
  | mk (C1 : Circ) (su : List (Int × List Int)) (T : List (Int × Int)) (pr rest : List Int) (e1 : xs = rest.map .int) (e2 : pr ++ rest = srt (BE C.gs g)) (l1 : l "self" = some (sAV j)) (l2 : l "gate" = some (.int g)) (l3 : l "x" = some (.int x)) (l4 : l "table" = some (.ref a)) (e3 : h = putS j C1 { S with su := su } (hp.set a (.dI (knL T))))
      (I : SetI C C1 x b T pr) (s1 : SuOk C1.gs su) (R1 : Room C1 (k + rest.length)) (hT : ∀ m : Nat, (m : Int) ∈ pr → m ≠ x → (x : Int) ∈ SU C.gs m → ∃ v, aGet T (m : Int) = some v) (hTl : T.length ≤ pr.length + 1) : SeI j C S hp k g x a b xs l h
theorem settled_ok {g x : Nat} {b : Bool} {v : Int} {k : Nat} (w : WC C) (G : GOk C g) (R : Room C (k + 63)) (s : SuOk C.gs S.su) (hgx : g ≠ x) (hx : (x : Int) ∈ SU C.gs g) (hv : v = if b then 1 else -1)
    (hK : ∀ C' su r, SettledOk C C' g x b r → Room C' k → SuOk C'.gs su → K (.int r) (putS j C' { S with su := su } hp)) :
    Call P (n + 4) "Counter.settled" [sAV j, .int g, .int x, .int v] (putS j C S hp) K := by
  have hl := G.li
  have hg1 : 1 ≤ g := hl.1
  have hg2 : g < C.gs.length := hl.2
  obtain ⟨x', e, x2, xg, hxi⟩ := SU_inputs w.wg g hg1 hg2 x hx
  have e : x = x' := by exact Int.ofNat.inj e
  subst e
  have hB := BE_nodup w.wg hg1 hg2
  have h63 : (BE C.gs g).length ≤ 63 := G.b63
  refine call4 rfl ?_
  unfold b_Counter_settled
  walk_at "go"
  intro a ha
  obtain ⟨fa, ha⟩ := putS_fresh ha
  have hga : ∀ C1 S1 o, putS j C1 S1 (hp.set a o) a = some o := fun C1 S1 o => by rw [putS_get fa, HP.set_self]
  have sga : ∀ C1 S1 o o', (putS j C1 S1 (hp.set a o)).set a o' = putS j C1 S1 (hp.set a o') := fun C1 S1 o o' => by rw [putS_comm fa, set_set]
  rw [putS_comm fa, show AObj.dI [((x : Int), AV.int v)] = .dI (knL [((x : Int), v)]) from rfl]
  walk_at "go"
  refine below_ok (j := j) w.wg hl (by have := R.sz; exact Nat.le_of_lt this.2.1) G.b63 ?_
  refine ⟨_, rfl, ?_⟩
  refine wpFor_ind (SeI j C S hp k g x a b)
    (fun l h hI => ?_) (fun Q y xs l h hQ hI => ?_) ⟨C, S.su, [((x : Int), v)], [], srt (BE C.gs g), rfl, rfl, by walk_at "lk", by walk_at "lk", by walk_at "lk", by walk_at "lk", rfl, ?_, s, ?_, fun m hm => (nomatch hm), Nat.le_refl _⟩
  · obtain ⟨C1, su, T, pr, rest, e1, e2, l1, l2, l3, l4, rfl, I, s1, R1, hT, hTl⟩ := hI
    have : rest = [] := by cases rest with | nil => rfl | cons _ _ => cases e1
    subst this
    simp at e2
    have hgp : (g : Int) ∈ pr := by rw [e2]; exact mem_srt.mpr (BE_self w.wg hg1 hg2)
    obtain ⟨r, hr⟩ := hT g hgp hgx hx
    have hrt : tau T g = r := by unfold tau; rw [hr]; rfl
    have o := I.all g hgp
    have hfin : SettledOk C C1 g x b r := by
      rw [← hrt]
      refine ⟨I.wc, I.pre, o.li, o.sem, o.su, ?_⟩
      have := len_le_of_sub (m := (BE C.gs g).map fun h' => ((tau T h').natAbs : Int)) (BE_nodup I.wc.wg o.li.1 o.li.2) fun y hy => by
        obtain ⟨h', e1, e2⟩ := o.be y hy
        exact List.mem_map.mpr ⟨h', e1, e2.symm⟩
      simpa using this
    walk_at "go"
    refine g_gi (v := .int r) (by rw [ix_rd (hga _ _ _)]; unfold knL; rw [aGet_map, hr]; rfl) (smallN (by have := R.sz; exact Nat.le_trans (Nat.le_of_lt hg2) (Nat.le_trans (Nat.le_mul_of_pos_right _ (by decide)) this.1))) ?_
    walk_at "go"
    exact g_fin (putS_new ha) (hK C1 su r hfin R1 s1)
  · obtain ⟨C1, su, T, pr, rest, e1, e2, l1, l2, l3, l4, rfl, I, s1, R1, hT, hTl⟩ := hI
    cases rest with
    | nil => cases e1
    | cons y' rest =>
    simp only [List.map_cons, List.cons.injEq] at e1
    obtain ⟨rfl, rfl⟩ := e1
    obtain ⟨p1, p2, p3, p4, p5⟩ := srt_split hB e2
    obtain ⟨h, rfl, k1, k2⟩ := BE_range w.wg _ hg1 hg2 y' p3
    have k3 : h < C.gs.length := Nat.lt_of_le_of_lt k2 hg2
    have hlen : (BE C.gs h).length ≤ 63 := by
      have := len_le_of_sub (BE_nodup w.wg k1 k3) (BE_trans w.wg hg1 hg2 p3); exact Nat.le_trans this h63
    have GO : GOk C1 h := ⟨I.wc.wg, lit.mono I.pre ⟨k1, k3⟩, R1.sz.1, by
      show (BE C1.gs h).length ≤ 63
      rw [BE_stable I.pre k3]; exact hlen⟩
    have e2' : (pr ++ [(h : Int)]) ++ rest = srt (BE C.gs g) := by simpa using e2
    refine ⟨_, rfl, ?_⟩
    simp only [List.length_cons] at R1
    walk_at "go"
    by_cases hhx : (h : Int) = x
    · refine g_dneg (fun q => q hhx) ?_
      have hhx : h = x := Int.ofNat_inj.mp hhx
      subst hhx
      walk_at "go"
      refine g_neg0 ?_
      walk_at "go"
      refine ⟨_, HP.Sub.refl _, hQ _ _ ⟨C1, su, T, pr ++ [(h : Int)], rest, rfl, e2', by walk_at "lk", by walk_at "lk", by walk_at "lk", by walk_at "lk", rfl, I.self w k1 k3 hxi, s1, R1.less (by exact Nat.le_succ _), fun m hm hne hxm => ?_, by rw [List.length_append, List.length_singleton]; exact Nat.le_succ_of_le hTl⟩⟩
      rcases List.mem_append.mp hm with q | q
      · exact hT m q hne hxm
      · exact absurd (Int.ofNat_inj.mp (List.mem_singleton.mp q)) hne
    · refine g_dpos hhx ?_
      walk_at "go"
      refine support_ok GO s1 fun su2 s2 => ?_
      have hSU : SU C1.gs ((h : Int).natAbs) = SU C.gs h := SU_stable I.pre k3
      rw [hSU]
      refine g_in hk_fd ?_
      walk_at "go"
      by_cases hxh : (x : Int) ∈ SU C.gs h
      · refine g_dpos hxh ?_
        cases w.wg.kind k1 k3 with
        | tru _ hk => rw [SU_true hk] at hxh; cases hxh
        | inp _ hk => rw [SU_input hk] at hxh; exact absurd (List.mem_singleton.mp hxh).symm hhx
        | con ps _ hk q =>
          have hk1 : C1.gs[h]? = some ("and", ps) := by
            obtain ⟨more, e⟩ := I.pre
            rw [← e, List.getElem?_append_left k3]; exact hk
          walk_at "go"
          refine parts_okS (g := (h : Int)) (q := ("and", ps)) hk1 (smallN (by have := R1.sz; have := GO.li.2; exact Nat.le_trans (Nat.le_of_lt this) (Nat.le_trans (Nat.le_mul_of_pos_right _ (by decide)) ‹C1.gs.length * 2 ≤ SZ ∧ C1.gs.length < SZ ∧ C1.known.length < SZ›.1))) ?_
          have hpl := parts_len w.wg k1 hk
          refine ⟨_, rfl, by rw [List.length_map]; show ps.length ≤ SZ; unfold SZ; exact Nat.le_trans (Nat.le_of_lt hpl) (Nat.le_trans hlen (by decide)), ?_⟩
          refine wpComp_pure (f := fun p : Int => AV.int (turn T p)) (fun p hp' => ⟨_, rfl, fun K hK => ?_⟩) ?_
          · walk_at "go"
            exact turned_ok (hga C1 _ _) hK
          · walk_at "go"
            rw [List.nil_append]
            refine all_of_ok (gs := ps.map (turn T)) (by rw [List.map_map]; rfl) (by rw [List.length_map]; exact Nat.le_succ_of_le (Nat.le_trans hpl hlen)) R1.sz.2.2 R1.sz.2.1 ?_
            have hlits : ∀ p ∈ ps.map (turn T), lit C1.gs p := fun z hz => by
              obtain ⟨p, hp', rfl⟩ := List.mem_map.mp hz
              have hb := BE_trans w.wg hg1 hg2 p3 _ ((mem_BE_and w.wg k1 hk).mpr (.inr ⟨p, hp', BE_self w.wg (q.ge p hp') (Nat.lt_trans (q.lt p hp') k3)⟩))
              exact turn_lit (I.all _ (p1 _ hb (by have := q.lt p hp'; exact Int.ofNat_le.mpr this)))
            have AO := allOf_ok I.wc hlits
            have hnew := I.turn w k1 hk (fun m hm => by
              have h1 := p2 _ hm
              obtain ⟨m', e, m1, m2⟩ := BE_range w.wg _ hg1 hg2 _ (p4 _ hm)
              omega) hhx hxh (fun y hy hlt => p1 y (BE_trans w.wg hg1 hg2 p3 y hy) hlt) AO
            have hprl : pr.length + (rest.length + 1) = (BE C.gs g).length := by
              have := congrArg List.length e2
              rw [(srt_perm _).length_eq, List.length_append] at this
              exact this
            walk_at "go"
            refine g_setI (kvs := knL T) (hga _ _ _) (by unfold knL; rw [List.length_map]; unfold SZ; omega) ?_
            have ea : aPut (knL T) (h : Int) (.int (allOf C1 (ps.map (turn T))).2) = knL (aPut T h (allOf C1 (ps.map (turn T))).2) := by
              unfold knL; rw [aPut_map]
            rw [ea]
            walk_at "go"
            refine ⟨_, HP.Sub.refl _, hQ _ _ ⟨(allOf C1 (ps.map (turn T))).1, su2, _, pr ++ [(h : Int)], rest, rfl, e2', by walk_at "lk", by walk_at "lk", by walk_at "lk", by walk_at "lk", sga _ _ _ _, hnew, s2.mono AO.pre, Room.allOf (R1.less (by exact Nat.le_refl _)), fun m hm hne hxm => ?_, ?_⟩⟩
            · rcases List.mem_append.mp hm with q | q
              · have hmh : (m : Int) ≠ h := fun e => p5 (e ▸ q)
                rw [aGet_put_ne hmh]; exact hT m q hne hxm
              · have q : m = h := Int.ofNat_inj.mp (List.mem_singleton.mp q)
                subst q
                exact ⟨_, aGet_put⟩
            · have := aPut_len (l := T) (k := (h : Int)) (v := (allOf C1 (ps.map (turn T))).2)
              rw [List.length_append, List.length_singleton]; exact Nat.le_trans this (Nat.lt_succ_of_le hTl)
      · refine g_dneg hxh ?_
        walk_at "go"
        refine ⟨_, HP.Sub.refl _, hQ _ _ ⟨C1, su2, T, pr ++ [(h : Int)], rest, rfl, e2', by walk_at "lk", by walk_at "lk", by walk_at "lk", by walk_at "lk", rfl, I.skip w k1 k3 p5 hhx hxh hxi, s2, R1.less (by exact Nat.le_succ _), fun m hm hne hxm => ?_, by rw [List.length_append, List.length_singleton]; exact Nat.le_succ_of_le hTl⟩⟩
        rcases List.mem_append.mp hm with q | q
        · exact hT m q hne hxm
        · have q : m = h := Int.ofNat_inj.mp (List.mem_singleton.mp q)
          subst q
          exact absurd hxm hxh
  · refine ⟨w, List.prefix_refl _, fun k' v' hm => ?_, ?_, fun m hm => by (cases hm)⟩
    · simp at hm; exact .inl hm.1
    · rw [hv]; simp [aGet]
  · rw [(srt_perm _).length_eq]; exact R.less (by exact Nat.add_le_add_left h63 _)
end
end Mine
end
section
set_option Elab.async false
set_option maxRecDepth 100000
set_option linter.unusedVariables false
set_option linter.unusedSimpArgs false
namespace Mine

abbrev Lot := List Int × List Int
structure LotOk (gs : Gates) (l : Lot) : Prop where
  ne : l.1 ≠ []
  nd : l.2.Nodup
  mem : ∀ x, x ∈ l.2 ↔ ∃ p ∈ l.1, x ∈ SU gs p.natAbs
noncomputable def Apart (a b : Lot) : Prop := ∀ x ∈ a.2, x ∉ b.2
structure LotsOk (gs : Gates) (ps : List Int) (L : List Lot) : Prop where
  all : ∀ l ∈ L, LotOk gs l
  dis : L.Pairwise Apart
  perm : (L.flatMap (·.1)).Perm ps
noncomputable def lotV (l : Lot) : AV := .tup [.fl (l.1.map .int), .fd l.2]

theorem lots_len {gs : Gates} : ∀ {L : List Lot}, (∀ l ∈ L, LotOk gs l) → L.length ≤ (L.flatMap (·.1)).length
  | [], _ => by simp
  | l :: L, h => by
    have h1 := (h l List.mem_cons_self).ne
    have h2 := lots_len (L := L) fun x hx => h x (List.mem_cons_of_mem _ hx)
    have h3 : 0 < l.1.length := List.length_pos_iff.mpr h1
    simp only [List.flatMap_cons, List.length_append, List.length_cons]; omega

theorem wpComp_filt {α : Type} {t : Tgt} {loc : Loc} {cond : Loc → HP → (Bool → HP → Prop) → Prop} {elt : Loc → HP → (AV → HP → Prop) → Prop} {v f : α → AV} {q : α → Bool} {hp : HP} {K : AV → HP → Prop} : ∀ {xs : List α} {acc : List AV},
    (∀ x ∈ xs, ∃ l, bindT t (v x) loc = some l ∧ (∀ K, K (q x) hp → cond l hp K) ∧ ∀ K, K (f x) hp → elt l hp K) → K (.fl (acc ++ (xs.filter q).map f)) hp → wpComp t loc cond elt (xs.map v) acc hp K
  | [], acc, _, hK => by simpa [wpComp] using hK
  | x :: xs, acc, h, hK => by
    obtain ⟨l, e1, e2, e3⟩ := h x List.mem_cons_self
    refine ⟨l, e1, e2 _ ?_⟩
    have ih := fun acc => wpComp_filt (K := K) (xs := xs) (acc := acc) (fun y hy => h y (List.mem_cons_of_mem _ hy))
    cases hq : q x with
    | true =>
      simp only [if_true]
      refine e3 _ (ih _ ?_)
      rw [List.filter_cons, if_pos hq] at hK
      simpa using hK
    | false =>
      rw [if_neg (by simp)]
      refine ih _ ?_
      rw [List.filter_cons, if_neg (by simp [hq])] at hK
      exact hK

section
variable {j : SI} {C : Circ} {S : Tabs} {hp : HP} {K : AV → HP → Prop} {n : Nat}

theorem nat_len {gs : Gates} {l : List Int} (hn : l.Nodup) (h : ∀ x ∈ l, ∃ n : Nat, x = n ∧ n < gs.length) : l.length ≤ gs.length := by
  have := len_le_of_sub (m := (List.range gs.length).map fun (n : Nat) => (n : Int)) hn fun x hx => by
    obtain ⟨n, e, a⟩ := h x hx
    exact List.mem_map.mpr ⟨n, by simp; omega, e.symm⟩
  simpa using this

inductive GrI (j : SI) (C : Circ) (S : Tabs) (hp : HP) (ps : List Int) (xs : List AV) (l : Loc) (h : HP) : Prop
  | mk (L : List Lot) (su : List (Int × List Int)) (pr rest : List Int) (e1 : xs = rest.map .int) (e2 : pr ++ rest = ps) (l1 : l "self" = some (sAV j)) (l2 : l "lots" = some (.fl (L.map lotV))) (eh : h = putS j C { S with su := su } hp) (I : LotsOk C.gs pr L) (s : SuOk C.gs su) : GrI j C S hp ps xs l h
inductive GrJ (j : SI) (C : Circ) (L : List Lot) (p : Int) (c d : Nat) (ST : List Int → List Lot → HP) (xs : List AV) (l : Loc) (h : HP) : Prop
  | mk (L1 L2 : List Lot) (lot inner : List Int) (others : List Lot) (e1 : xs = L2.map lotV) (e2 : L1 ++ L2 = L) (m1 : l "self" = some (sAV j)) (m2 : l "lot" = some (.fl (lot.map .int))) (m3 : l "inner" = some (.ref c)) (m4 : l "others" = some (.ref d)) (eh : h = ST inner others)
      (i1 : (others.flatMap (·.1) ++ lot).Perm (L1.flatMap (·.1) ++ [p])) (i2 : others.Sublist L1) (i3 : LotOk C.gs (lot, inner)) (i4 : ∀ o ∈ others, Apart o (lot, inner)) : GrJ j C L p c d ST xs l h

theorem groups_ok {ps : List Int} (w : WG C.gs) (G : ∀ p ∈ ps, GOk C p) (hz : C.gs.length * 2 ≤ SZ) (h63 : ps.length ≤ 63) (s : SuOk C.gs S.su)
    (hK : ∀ su L, LotsOk C.gs ps L → SuOk C.gs su → K (.fl (L.map fun l => .fl (l.1.map .int))) (putS j C { S with su := su } hp)) :
    Call P (n + 4) "Counter.groups" [sAV j, .tup (ps.map .int)] (putS j C S hp) K := by
  refine call2 rfl ?_
  unfold b_Counter_groups
  walk_at "go"
  have lenOfLot : ∀ {l : Lot}, LotOk C.gs l → (∀ p ∈ l.1, p ∈ ps) → l.2.length ≤ C.gs.length := fun {l} o hs => nat_len o.nd fun x hx => by
    obtain ⟨p, hp', hx⟩ := (o.mem x).mp hx
    obtain ⟨m, e, _, e2, _⟩ := SU_inputs w _ (G p (hs p hp')).li.1 (G p (hs p hp')).li.2 x hx
    exact ⟨m, e, by have := (G p (hs p hp')).li.2; exact Nat.lt_of_le_of_lt e2 this⟩
  refine ⟨_, rfl, ?_⟩
  refine wpFor_ind (GrI j C S hp ps)
    (fun l h hI => ?_) (fun Q y xs l h hQ hI => ?_) ⟨[], S.su, [], ps, rfl, rfl, by walk_at "lk", by walk_at "lk", rfl, ⟨fun l hl => (nomatch hl), List.Pairwise.nil, List.Perm.refl _⟩, s⟩
  · obtain ⟨L, su, pr, rest, e1, e2, l1, l2, rfl, I, s1⟩ := hI
    have : rest = [] := by cases rest with | nil => rfl | cons _ _ => cases e1
    subst this
    simp at e2
    subst e2
    have hLl := lots_len I.all
    rw [I.perm.length_eq] at hLl
    walk_at "go"
    refine ⟨_, rfl, by rw [List.length_map]; unfold SZ; exact Nat.le_trans hLl (Nat.le_trans h63 (by decide)), ?_⟩
    refine wpComp_pure (f := fun l : Lot => AV.fl (l.1.map .int)) (fun l hl => ⟨_, rfl, fun K hK => ?_⟩) ?_
    · rw [show setAll _ ["lot", "inner"] [AV.fl (l.1.map .int), .fd l.2] = Loc.set (Loc.set _ "lot" (AV.fl (l.1.map .int))) "inner" (.fd l.2) from rfl]
      walk_at "go"; exact hK
    · walk_at "go"
      exact g_fin0 (hK su L I s1)
  · obtain ⟨L, su, pr, rest, e1, e2, l1, l2, rfl, I, s1⟩ := hI
    cases rest with
    | nil => cases e1
    | cons p rest =>
    simp only [List.map_cons, List.cons.injEq] at e1
    obtain ⟨rfl, rfl⟩ := e1
    have hpm : p ∈ ps := by rw [← e2]; simp
    have hprs : ∀ q ∈ pr, q ∈ ps := fun q hq => by rw [← e2]; exact List.mem_append_left _ hq
    have hprl : pr.length + (rest.length + 1) = ps.length := by
      have := congrArg List.length e2; simpa using this
    have hLps : ∀ l ∈ L, ∀ q ∈ l.1, q ∈ ps := fun l hl q hq => hprs q (I.perm.mem_iff.mp (List.mem_flatMap.mpr ⟨l, hl, hq⟩))
    have hLl := lots_len I.all
    rw [I.perm.length_eq] at hLl
    refine ⟨_, rfl, ?_⟩
    walk_at "go"
    refine support_ok (G p hpm) s1 fun su2 s2 => ?_
    walk_at "go"
    have hpl := SU_len w (G p hpm).li.1 (G p hpm).li.2
    refine g_dict (by exact Nat.le_trans hpl (Nat.le_trans (Nat.le_mul_of_pos_right _ (by decide)) hz)) fun c hc => ?_
    obtain ⟨fc, hc⟩ := putS_fresh hc
    rw [putS_comm fc]
    walk_at "go"
    intro d hd
    obtain ⟨fd, hd⟩ := putS_fresh hd
    rw [putS_comm fd]
    walk_at "go"
    have hdc : d ≠ c := fun e => by subst e; rw [HP.set_self] at hd; cases hd
    have hd' : hp d = none := by rw [HP.set_ne hdc] at hd; exact hd
    let ST : List Int → List Lot → HP := fun inner others => putS j C { S with su := su2 } ((hp.set c (.dI (trues inner))).set d (.list (others.map lotV)))
    have gc : ∀ a b, ST a b c = some (.dI (trues a)) := fun a b => by show putS _ _ _ _ _ = _; rw [putS_get fc, HP.set_ne (Ne.symm hdc), HP.set_self]
    have gd : ∀ a b, ST a b d = some (.list (b.map lotV)) := fun a b => by show putS _ _ _ _ _ = _; rw [putS_get fd, HP.set_self]
    have sc : ∀ a b a', (ST a b).set c (.dI (trues a')) = ST a' b := fun a b a' => by show (putS _ _ _ _).set _ _ = putS _ _ _ _; rw [putS_comm fc, set_comm hdc, set_set]
    have sd : ∀ a b b', (ST a b).set d (.list (b'.map lotV)) = ST a b' := fun a b b' => by show (putS _ _ _ _).set _ _ = putS _ _ _ _; rw [putS_comm fd, set_set]
    have sub : ∀ a b, HP.Sub (putS j C { S with su := su2 } hp) ((ST a b).del c) := fun a b k q e => by
      have hkc : k ≠ c := fun z => by subst z; rw [putS_get fc, hc] at e; cases e
      unfold HP.del
      rw [if_neg hkc]
      refine putS_sub (fun k o e => ?_) _ _ e
      have h1 : k ≠ c := fun z => by subst z; rw [hc] at e; cases e
      have h2 : k ≠ d := fun z => by subst z; rw [hd'] at e; cases e
      rw [HP.set_ne h2, HP.set_ne h1]; exact e
    refine ⟨_, rfl, ?_⟩
    refine wpFor_ind (GrJ j C L p c d ST)
      (fun l h hI => ?_) (fun Q2 y xs l h hQ2 hI => ?_) ⟨[], L, [p], SU C.gs p.natAbs, [], rfl, rfl, by walk_at "lk", by walk_at "lk", by walk_at "lk", by walk_at "lk", rfl, List.Perm.refl _, List.Sublist.refl _, ⟨List.cons_ne_nil _ _, SU_nodup w (G p hpm).li.1 (G p hpm).li.2, by simp⟩, fun o ho => (nomatch ho)⟩
    · obtain ⟨L1, L2, lot, inner, others, f1, f2, m1, m2, m3, m4, rfl, i1, i2, i3, i4⟩ := hI
      have : L2 = [] := by cases L2 with | nil => rfl | cons _ _ => cases f1
      subst this
      simp at f2
      subst f2
      have hol := i2.length_le
      walk_at "go"
      refine g_frz (by walk_at "lk") (gc _ _) frozen_trues ?_
      walk_at "go"
      refine g_catr (xs := others.map lotV) (ys := [lotV (lot, inner)]) (al_r ?_) rfl (by rw [List.length_map, List.length_singleton]; exact Nat.le_trans (Nat.succ_le_succ (Nat.le_trans hol (Nat.le_trans hLl (Nat.le_trans (Nat.le_add_right _ _) (Nat.le_trans (Nat.le_of_eq hprl) h63))))) (by decide)) ?_
      · unfold HP.del
        rw [if_neg hdc]; exact gd _ _
      walk_at "go"
      rw [show others.map lotV ++ [lotV (lot, inner)] = (others ++ [(lot, inner)]).map lotV by rw [List.map_append]; rfl]
      refine ⟨_, sub _ _, hQ _ _ ⟨others ++ [(lot, inner)], su2, pr ++ [p], rest, rfl, by rw [List.append_assoc]; exact e2, by walk_at "lk", by walk_at "lk", rfl, ⟨?_, ?_, ?_⟩, s2⟩⟩
      · intro o ho
        rcases List.mem_append.mp ho with q | q
        · exact I.all o (i2.subset q)
        · simp at q; subst q; exact i3
      · rw [List.pairwise_append]
        refine ⟨I.dis.sublist i2, by simp, fun a ha b hb => ?_⟩
        simp at hb; subst hb
        exact i4 a ha
      · rw [List.flatMap_append]
        simp only [List.flatMap_cons, List.flatMap_nil, List.append_nil]
        exact i1.trans (I.perm.append_right _)
    · obtain ⟨L1, L2, lot, inner, others, f1, f2, m1, m2, m3, m4, rfl, i1, i2, i3, i4⟩ := hI
      cases L2 with
      | nil => cases f1
      | cons o L2 =>
      simp only [List.map_cons, List.cons.injEq] at f1
      obtain ⟨rfl, rfl⟩ := f1
      have hoL : o ∈ L := by rw [← f2]; simp
      have oo := I.all o hoL
      have hol := lenOfLot oo (hLps o hoL)
      have hlot : ∀ q ∈ lot, q ∈ ps := fun q hq => by
        have := i1.mem_iff.mp (List.mem_append_right _ hq)
        rcases List.mem_append.mp this with z | z
        · obtain ⟨l, hl, hq⟩ := List.mem_flatMap.mp z
          exact hLps l (by rw [← f2]; exact List.mem_append_left _ hl) q hq
        · simp at z; rw [z]; exact hpm
      have hil := lenOfLot i3 hlot
      have hL1l : L1.length ≤ L.length := by rw [← f2]; simp
      have hothl := i2.length_le
      have hl1 := i1.length_eq
      have hl2 : (L1.flatMap (·.1)).length + (o.1.length + (L2.flatMap (·.1)).length) = pr.length := by
        rw [← I.perm.length_eq, ← f2]; simp
      simp only [List.length_append, List.length_cons, List.length_nil] at hl1
      have f2' : (L1 ++ [o]) ++ L2 = L := by simpa using f2
      refine ⟨_, rfl, ?_⟩
      rw [show setAll l ["other", "late"] [AV.fl (o.1.map .int), .fd o.2] = Loc.set (Loc.set l "other" (AV.fl (o.1.map .int))) "late" (.fd o.2) from rfl]
      walk_at "go"
      refine ⟨_, rfl, by rw [List.length_map]; unfold SZ at hz ⊢; exact Nat.le_trans hol (Nat.le_trans (Nat.le_mul_of_pos_right _ (by decide)) hz), ?_⟩
      refine wpComp_filt (f := AV.int) (q := fun x => decide (x ∈ inner)) (fun x hx => ⟨_, rfl, fun K hK => ?_, fun K hK => ?_⟩) ?_
      · walk_at "go"
        have e : inK (trues inner) x = decide (x ∈ inner) := by unfold inK; rw [keys_trues]
        refine g_in (hk_r (gc _ _)) ?_
        rw [e]; exact hK
      · walk_at "go"; exact hK
      · walk_at "go"
        rw [List.nil_append]
        refine g_len ln_fl (by rw [List.length_map]; exact Nat.le_trans (List.length_filter_le _ _) (by exact Nat.le_trans hol (Nat.le_trans (Nat.le_mul_of_pos_right _ (by decide)) hz))) ?_
        walk_at "go"
        rw [List.length_map]
        have hdis : ∀ o' ∈ others, Apart o' o := fun o' ho' => by
          have := I.dis
          rw [← f2, List.pairwise_append] at this
          exact this.2.2 o' (i2.subset ho') o List.mem_cons_self
        by_cases hov : ∃ x, x ∈ o.2 ∧ x ∈ inner
        · refine g_dpos ?_ ?_
          · obtain ⟨x, h1, h2⟩ := hov
            have hm : x ∈ o.2.filter fun x => decide (x ∈ inner) := List.mem_filter.mpr ⟨h1, decide_eq_true h2⟩
            have := List.length_pos_of_mem hm
            exact Int.ofNat_lt.mpr this
          walk_at "go"
          refine g_cat rfl al_fl (by rw [List.length_map, List.length_map]; unfold SZ; omega) ?_
          walk_at "go"
          refine g_tupdate (gc _ _) ?_
          walk_at "go"
          refine g_update (gc _ _) (by rw [trues_len]; exact Nat.le_trans (Nat.add_le_add hil hol) (Nat.le_trans (Nat.le_of_eq (Nat.mul_two _).symm) hz)) ?_
          walk_at "go"
          rw [← List.map_append]
          refine ⟨_, HP.Sub.refl _, hQ2 _ _ ⟨L1 ++ [o], L2, o.1 ++ lot, kM inner o.2, others, rfl, f2', by walk_at "lk", by walk_at "lk", by walk_at "lk", by walk_at "lk", ?_, ?_, i2.trans (List.sublist_append_left _ _), ⟨?_, nodup_kM i3.nd, fun x => ?_⟩, fun o' ho' x hx => ?_⟩⟩
          · rw [show (o.2.map fun k => (k, AV.bool true)) = trues o.2 from rfl, aMerge_trues, sc]
          · rw [List.flatMap_append]
            simp only [List.flatMap_cons, List.flatMap_nil, List.append_nil]
            have h1 : (others.flatMap (·.1) ++ (o.1 ++ lot)).Perm (o.1 ++ (others.flatMap (·.1) ++ lot)) := by
              rw [← List.append_assoc, ← List.append_assoc]
              exact (List.perm_append_comm).append_right _
            have h2 : (o.1 ++ (others.flatMap (·.1) ++ lot)).Perm (o.1 ++ (L1.flatMap (·.1) ++ [p])) := i1.append_left _
            have h3 : (o.1 ++ (L1.flatMap (·.1) ++ [p])).Perm (L1.flatMap (·.1) ++ o.1 ++ [p]) := by
              rw [← List.append_assoc]
              exact (List.perm_append_comm).append_right _
            exact (h1.trans h2).trans h3
          · have := oo.ne; simp [this]
          · show x ∈ kM inner o.2 ↔ ∃ q ∈ o.1 ++ lot, _
            rw [mem_kM]
            have e1 := i3.mem x
            have e2 := oo.mem x
            dsimp only at e1
            rw [e1, e2]
            constructor
            · rintro (⟨q, hq, z⟩ | ⟨q, hq, z⟩)
              · exact ⟨q, List.mem_append_right _ hq, z⟩
              · exact ⟨q, List.mem_append_left _ hq, z⟩
            · rintro ⟨q, hq, z⟩
              rcases List.mem_append.mp hq with hq | hq
              · exact .inr ⟨q, hq, z⟩
              · exact .inl ⟨q, hq, z⟩
          · show x ∉ kM inner o.2
            rw [mem_kM]
            rintro (q | q)
            · exact i4 o' ho' x hx q
            · exact hdis o' ho' x hx q
        · refine g_dneg ?_ ?_
          · intro hc
            have : (o.2.filter fun x => decide (x ∈ inner)) ≠ [] := fun e => by rw [e] at hc; exact absurd hc (by decide)
            obtain ⟨x, hx⟩ := List.exists_mem_of_ne_nil _ this
            obtain ⟨h1, h2⟩ := List.mem_filter.mp hx
            exact hov ⟨x, h1, of_decide_eq_true h2⟩
          walk_at "go"
          refine g_tappend (gd _ _) ?_
          walk_at "go"
          refine g_append (gd _ _) (by rw [List.length_map]; exact Nat.le_trans hothl (Nat.le_trans hL1l (Nat.le_trans hLl (Nat.le_trans (Nat.le_add_right _ _) (Nat.le_trans (Nat.le_of_eq hprl) (Nat.le_trans h63 (by decide))))))) ?_
          walk_at "go"
          refine ⟨_, HP.Sub.refl _, hQ2 _ _ ⟨L1 ++ [o], L2, lot, inner, others ++ [o], rfl, f2', by walk_at "lk", by walk_at "lk", by walk_at "lk", by walk_at "lk", ?_, ?_, i2.append (List.Sublist.refl _), i3, fun o' ho' => ?_⟩⟩
          · rw [show (others.map lotV ++ [AV.tup [.fl (o.1.map .int), .fd o.2]]) = (others ++ [o]).map lotV by rw [List.map_append]; rfl, sd]
          · rw [List.flatMap_append, List.flatMap_append]
            simp only [List.flatMap_cons, List.flatMap_nil, List.append_nil]
            have h1 : (others.flatMap (·.1) ++ o.1 ++ lot).Perm (others.flatMap (·.1) ++ lot ++ o.1) := by
              rw [List.append_assoc, List.append_assoc]
              exact (List.perm_append_comm).append_left _
            have h2 : (others.flatMap (·.1) ++ lot ++ o.1).Perm (L1.flatMap (·.1) ++ [p] ++ o.1) := i1.append_right _
            have h3 : (L1.flatMap (·.1) ++ [p] ++ o.1).Perm (L1.flatMap (·.1) ++ o.1 ++ [p]) := by
              rw [List.append_assoc, List.append_assoc]
              exact (List.perm_append_comm).append_left _
            exact (h1.trans h2).trans h3
          · rcases List.mem_append.mp ho' with q | q
            · exact i4 o' q
            · simp at q; subst q
              exact fun x hx hxi => hov ⟨x, hx, hxi⟩
end
end Mine
end
section
set_option Elab.async false
set_option maxRecDepth 100000
set_option linter.unusedVariables false
set_option linter.unusedSimpArgs false
namespace Mine

theorem aPut_keys {V : Type} {l : List (Int × V)} {k : Int} {v : V} : (aPut l k v).map (·.1) = if k ∈ l.map (·.1) then l.map (·.1) else l.map (·.1) ++ [k] := by
  unfold aPut
  by_cases h : k ∈ l.map (·.1)
  · rw [if_pos h, if_pos]
    · rw [List.map_map]
      apply List.map_congr_left
      intro x _
      simp only [Function.comp]
      split <;> rfl
    · obtain ⟨x, hx, e⟩ := List.mem_map.mp h
      rw [List.any_eq_true]; exact ⟨x, hx, by simp [e]⟩
  · rw [if_neg h, if_neg]
    · simp
    · rw [List.any_eq_true]
      rintro ⟨x, hx, e⟩
      exact h (List.mem_map.mpr ⟨x, hx, by simpa using e⟩)
theorem keys_get {V : Type} {l : List (Int × V)} {k : Int} (h : k ∈ l.map (·.1)) : ∃ v, aGet l k = some v := by
  obtain ⟨x, hx, rfl⟩ := List.mem_map.mp h
  exact aGet_isSome (v := x.2) hx
theorem knL_keys {l : List (Int × Int)} : (knL l).map (·.1) = l.map (·.1) := by unfold knL; rw [List.map_map]; rfl
theorem knL_put {l : List (Int × Int)} {k v : Int} : aPut (knL l) k (.int v) = knL (aPut l k v) := by unfold knL; rw [aPut_map]
theorem knL_get {l : List (Int × Int)} {k : Int} : aGet (knL l) k = (aGet l k).map .int := aGet_map _ _ _

section
variable {j : SI} {C : Circ} {S : Tabs} {hp : HP} {K : AV → HP → Prop} {n : Nat}

inductive PkI (j : SI) (C : Circ) (S : Tabs) (hp : HP) (a : Nat) (ps : List Int) (xs : List AV) (l : Loc) (h : HP) : Prop
  | mk (kvs : List (Int × Int)) (su : List (Int × List Int)) (pr rest : List Int) (e1 : xs = rest.map .int) (e2 : pr ++ rest = ps) (l1 : l "self" = some (sAV j)) (l2 : l "often" = some (.ref a)) (eh : h = putS j C { S with su := su } (hp.set a (.dI (knL kvs)))) (s : SuOk C.gs su)
      (i1 : (kvs.map (·.1)).Nodup) (i2 : ∀ x, x ∈ kvs.map (·.1) ↔ ∃ p ∈ pr, x ∈ SU C.gs p.natAbs) : PkI j C S hp a ps xs l h
inductive PkJ (H : HP) (a : Nat) (ks : List Int) (xs : List AV) (l : Loc) (h : HP) : Prop
  | mk (b : Int) (pr rest : List Int) (e1 : xs = rest.map .int) (e2 : pr ++ rest = srt ks) (m1 : l "often" = some (.ref a)) (m2 : l "best" = some (.int b)) (eh : h = H) (hb : (b = 0 ∧ pr = []) ∨ b ∈ ks) : PkJ H a ks xs l h
inductive PkL (j : SI) (C : Circ) (S : Tabs) (hp : HP) (a : Nat) (pr : List Int) (p : Int) (xs : List AV) (l : Loc) (h : HP) : Prop
  | mk (kvs : List (Int × Int)) (xs1 xs2 : List Int) (e1 : xs = xs2.map .int) (e2 : xs1 ++ xs2 = SU C.gs p.natAbs) (l1 : l "self" = some (sAV j)) (l2 : l "often" = some (.ref a)) (eh : h = putS j C S (hp.set a (.dI (knL kvs))))
      (i1 : (kvs.map (·.1)).Nodup) (i2 : ∀ x, x ∈ kvs.map (·.1) ↔ (∃ p ∈ pr, x ∈ SU C.gs p.natAbs) ∨ x ∈ xs1) : PkL j C S hp a pr p xs l h

theorem pick_ok {ps D : List Int} (w : WG C.gs) (G : ∀ p ∈ ps, GOk C p) (h2 : ∀ p ∈ ps, 2 ≤ p.natAbs) (hne : ps ≠ []) (hz : C.gs.length * 2 ≤ SZ) (hD : ∀ p ∈ ps, ∀ x ∈ SU C.gs p.natAbs, x ∈ D) (hD63 : D.length ≤ 63) (s : SuOk C.gs S.su)
    (hK : ∀ su (x : Nat) p, p ∈ ps → (x : Int) ∈ SU C.gs p.natAbs → SuOk C.gs su → K (.int x) (putS j C { S with su := su } hp)) :
    Call P (n + 4) "Counter.pick" [sAV j, .fl (ps.map .int)] (putS j C S hp) K := by
  refine call2 rfl ?_
  unfold b_Counter_pick
  walk_at "go"
  refine g_dict0 fun a ha => ?_
  obtain ⟨fa, ha⟩ := putS_fresh ha
  rw [putS_comm fa, show (if false = true then AObj.dT [] else .dI []) = .dI (knL []) from rfl]
  have hga : ∀ S1 o, putS j C S1 (hp.set a o) a = some o := fun S1 o => by rw [putS_get fa, HP.set_self]
  have sga : ∀ S1 o o', (putS j C S1 (hp.set a o)).set a o' = putS j C S1 (hp.set a o') := fun S1 o o' => by rw [putS_comm fa, set_set]
  walk_at "go"
  refine ⟨_, rfl, ?_⟩
  refine wpFor_ind (PkI j C S hp a ps) (fun l h hI => ?_) (fun Q y xs l h hQ hI => ?_) ⟨[], S.su, [], ps, rfl, rfl, by walk_at "lk", by walk_at "lk", rfl, s, List.nodup_nil, fun x => ⟨fun h => (nomatch h), fun ⟨_, h, _⟩ => (nomatch h)⟩⟩
  · obtain ⟨kvs, su, pr, rest, e1, e2, l1, l2, rfl, s1, i1, i2⟩ := hI
    have : rest = [] := by cases rest with | nil => rfl | cons _ _ => cases e1
    subst this
    rw [List.append_nil] at e2
    subst e2
    have hkl : (kvs.map (·.1)).length ≤ D.length := len_le_of_sub i1 fun x hx => by
      obtain ⟨p, hp', hx⟩ := (i2 x).mp hx; exact hD p hp' x hx
    have hnat : ∀ x : Int, x ∈ kvs.map (·.1) → ∃ m : Nat, x = m ∧ m < C.gs.length := fun x hx => by
      obtain ⟨p, hp', hx⟩ := (i2 x).mp hx
      obtain ⟨m, e, _, b, _⟩ := SU_inputs w _ (G p hp').li.1 (G p hp').li.2 x hx
      exact ⟨m, e, Nat.lt_of_le_of_lt b (G p hp').li.2⟩
    have hsm : ∀ x : Int, x ∈ kvs.map (·.1) → small x := fun x hx => by obtain ⟨m, rfl, hm⟩ := hnat x hx; exact smallN (by exact Nat.le_trans (Nat.le_of_lt hm) (Nat.le_trans (Nat.le_mul_of_pos_right _ (by decide)) hz))
    walk_at "go"
    refine g_sorted (ko_r (hga _ _)) (by rw [knL_keys]; exact Nat.lt_succ_of_le (Nat.le_trans hkl hD63)) fun out p1 p2 => ?_
    rw [knL_keys] at p1
    rw [srt_eq p1 p2]
    walk_at "go"
    refine ⟨_, rfl, ?_⟩
    refine wpFor_ind (PkJ (putS j C { S with su := su } (hp.set a (.dI (knL kvs)))) a (kvs.map (·.1))) (fun l h hI => ?_) (fun Q y xs l h hQ hI => ?_) ⟨0, [], _, rfl, rfl, by walk_at "lk", by walk_at "lk", rfl, .inl ⟨rfl, rfl⟩⟩
    · obtain ⟨b, pr', rest, e1, e2, m1, m2, rfl, hb⟩ := hI
      have : rest = [] := by cases rest with | nil => rfl | cons _ _ => cases e1
      subst this
      rw [List.append_nil] at e2
      have hb' : b ∈ kvs.map (·.1) := by
        rcases hb with ⟨_, hb⟩ | hb
        · exfalso
          rw [hb] at e2
          cases hps : pr with
          | nil => exact hne hps
          | cons p r =>
            have hpp : p ∈ pr := by rw [hps]; exact List.mem_cons_self
            cases hs : SU C.gs p.natAbs with
            | nil => exact SU_ne w _ (h2 p hpp) (G p hpp).li.2 hs
            | cons x _ =>
              have : x ∈ kvs.map (·.1) := (i2 x).mpr ⟨p, hpp, by rw [hs]; exact List.mem_cons_self⟩
              have := mem_srt.mpr this
              rw [← e2] at this; cases this
        · exact hb
      obtain ⟨m, rfl, hm⟩ := hnat b hb'
      obtain ⟨p, hpp, hx⟩ := (i2 _).mp hb'
      walk_at "go"
      exact g_fin (putS_new ha) (hK su m p hpp hx s1)
    · obtain ⟨b, pr', rest, e1, e2, m1, m2, rfl, hb⟩ := hI
      cases rest with
      | nil => cases e1
      | cons x rest =>
      simp only [List.map_cons, List.cons.injEq] at e1
      obtain ⟨rfl, rfl⟩ := e1
      have hx : x ∈ kvs.map (·.1) := mem_srt.mp (by rw [← e2]; exact List.mem_append_right _ List.mem_cons_self)
      obtain ⟨vx, hvx⟩ := keys_get hx
      have e2' : (pr' ++ [x]) ++ rest = srt (kvs.map (·.1)) := by rw [List.append_assoc]; exact e2
      have hix : ∀ {z v : Int}, aGet kvs z = some v → idxGet (.ref a) (.int z) (putS j C { S with su := su } (hp.set a (.dI (knL kvs)))) = some (.int v) := fun e => by rw [ix_rd (hga _ _), knL_get, e]; rfl
      have take : (∃ h3, HP.Sub h3 (putS j C { S with su := su } (hp.set a (.dI (knL kvs)))) ∧ Q ((l.set "x" (.int x)).set "best" (.int x)) h3) := ⟨_, HP.Sub.refl _, hQ _ _ ⟨x, pr' ++ [x], rest, rfl, e2', by walk_at "lk", by walk_at "lk", rfl, .inr hx⟩⟩
      refine ⟨_, rfl, ?_⟩
      walk_at "go"
      by_cases h0 : b = 0
      · refine g_dpos h0 ?_
        walk_at "go"
        refine g_pos rfl ?_
        walk_at "go"
        exact take
      · have hb' : b ∈ kvs.map (·.1) := by
          rcases hb with ⟨hb, _⟩ | hb
          · exact absurd hb h0
          · exact hb
        obtain ⟨vb, hvb⟩ := keys_get hb'
        refine g_dneg h0 ?_
        walk_at "go"
        refine g_gi (hix hvx) (hsm x hx) ?_
        walk_at "go"
        refine g_gi (hix hvb) (hsm b hb') ?_
        walk_at "go"
        by_cases hgt : vx > vb
        · refine g_dpos hgt ?_
          walk_at "go"
          exact take
        · refine g_dneg hgt ?_
          walk_at "go"
          exact ⟨_, HP.Sub.refl _, hQ _ _ ⟨b, pr' ++ [x], rest, rfl, e2', by walk_at "lk", by walk_at "lk", rfl, .inr hb'⟩⟩
  · obtain ⟨kvs, su, pr, rest, e1, e2, l1, l2, rfl, s1, i1, i2⟩ := hI
    cases rest with
    | nil => cases e1
    | cons p rest =>
    simp only [List.map_cons, List.cons.injEq] at e1
    obtain ⟨rfl, rfl⟩ := e1
    have hpm : p ∈ ps := by rw [← e2]; exact List.mem_append_right _ List.mem_cons_self
    have hprs : ∀ q ∈ pr, q ∈ ps := fun q hq => by rw [← e2]; exact List.mem_append_left _ hq
    refine ⟨_, rfl, ?_⟩
    walk_at "go"
    refine support_ok (G p hpm) s1 fun su2 s2 => ?_
    refine ⟨_, rfl, ?_⟩
    refine wpFor_ind (PkL j C { S with su := su2 } hp a pr p) (fun l h hI => ?_) (fun Q2 y xs l h hQ2 hI => ?_) ⟨kvs, [], _, rfl, rfl, by walk_at "lk", by walk_at "lk", rfl, i1, fun x => by rw [i2]; exact ⟨.inl, fun h => h.elim id fun q => (nomatch q)⟩⟩
    · obtain ⟨kvs, xs1, xs2, f1, f2, m1, m2, rfl, i3, i4⟩ := hI
      have : xs2 = [] := by cases xs2 with | nil => rfl | cons _ _ => cases f1
      subst this
      rw [List.append_nil] at f2
      subst f2
      walk_at "go"
      refine ⟨_, HP.Sub.refl _, hQ _ _ ⟨kvs, su2, pr ++ [p], rest, rfl, by rw [List.append_assoc]; exact e2, m1, m2, rfl, s2, i3, fun x => ?_⟩⟩
      rw [i4]
      constructor
      · rintro (⟨q, hq, z⟩ | z)
        · exact ⟨q, List.mem_append_left _ hq, z⟩
        · exact ⟨p, List.mem_append_right _ List.mem_cons_self, z⟩
      · rintro ⟨q, hq, z⟩
        rcases List.mem_append.mp hq with hq | hq
        · exact .inl ⟨q, hq, z⟩
        · rw [List.mem_singleton.mp hq] at z; exact .inr z
    · obtain ⟨kvs, xs1, xs2, f1, f2, m1, m2, rfl, i3, i4⟩ := hI
      cases xs2 with
      | nil => cases f1
      | cons x xs2 =>
      simp only [List.map_cons, List.cons.injEq] at f1
      obtain ⟨rfl, rfl⟩ := f1
      have hkl : (kvs.map (·.1)).length ≤ D.length := len_le_of_sub i3 fun y hy => by
        rcases (i4 y).mp hy with ⟨q, hq, z⟩ | z
        · exact hD q (hprs q hq) y z
        · exact hD p hpm y (by rw [← f2]; exact List.mem_append_left _ z)
      rw [List.length_map] at hkl
      refine ⟨_, rfl, ?_⟩
      walk_at "go"
      refine g_tget (hga _ _) ?_
      walk_at "go"
      refine g_get (hga _ _) ?_
      have ev : (aGet (knL kvs) x).getD (.int 0) = .int ((aGet kvs x).getD 0) := by rw [knL_get]; cases aGet kvs x <;> rfl
      rw [ev]
      walk_at "go"
      refine g_setI (hga _ _) (by unfold knL; rw [List.length_map]; unfold SZ; exact Nat.le_trans hkl (Nat.le_trans hD63 (by decide))) ?_
      rw [knL_put, sga]
      walk_at "go"
      refine ⟨_, HP.Sub.refl _, hQ2 _ _ ⟨aPut kvs x ((aGet kvs x).getD 0 + 1), xs1 ++ [x], xs2, rfl, by rw [List.append_assoc]; exact f2, by walk_at "lk", by walk_at "lk", rfl, ?_, fun y => ?_⟩⟩
      · rw [aPut_keys]
        split
        · exact i3
        · rename_i hn
          rw [List.nodup_append]
          exact ⟨i3, by simp, fun a ha b hb e => by simp at hb; subst hb; subst e; exact hn ha⟩
      · rw [aPut_keys]
        split
        · rename_i hn
          rw [i4]
          constructor
          · rintro (z | z)
            · exact .inl z
            · exact .inr (List.mem_append_left _ z)
          · rintro (z | z)
            · exact .inl z
            · rcases List.mem_append.mp z with z | z
              · exact .inr z
              · rw [List.mem_singleton.mp z]; exact (i4 x).mp hn
        · rw [List.mem_append, i4, List.mem_append, or_assoc]
end
end Mine
end
section
set_option Elab.async false
set_option maxRecDepth 100000
set_option linter.unusedVariables false
set_option linter.unusedSimpArgs false
namespace Mine

noncomputable def own (gs : Gates) (p : Int) : Nat := cnt (SU gs p.natAbs) (fun ρ => Lit gs ρ p)
noncomputable def wt (gs : Gates) (p : Int) : Nat := 2 ^ (SU gs p.natAbs).length - 1

structure PlanOk (gs : Gates) (n : Nat) (s : String) (l : List Int) : Prop where
  li : ∀ p ∈ l, lit gs p
  be : ∀ p ∈ l, (BE gs p.natAbs).length ≤ (BE gs n).length
  wl : (l.map (wt gs)).sum + 1 ≤ wt gs n
  ln : l.length ≤ (BE gs n).length
  kind : (s = "product" ∧ own gs n = (l.map (own gs)).foldl (· * ·) 1 ∧ (l.map fun p => (SU gs p.natAbs).length).sum ≤ (SU gs n).length) ∨
    (s = "sum" ∧ own gs n = (l.map fun p => own gs p * 2 ^ ((SU gs n).length - 1 - (SU gs p.natAbs).length)).sum ∧ ∀ p ∈ l, (SU gs p.natAbs).length ≤ (SU gs n).length - 1)

section
variable {gs gs' : Gates} {i n : Nat} {ρ : Int → Bool} {ps l : List Int} {p x : Int} {s : String}

theorem own_stable (h : gs <+: gs') (hi : lit gs p) : own gs' p = own gs p := by
  unfold own; rw [SU_stable h hi.2]; exact cnt_congr fun ρ => Lit_stable h hi
theorem wt_stable (h : gs <+: gs') (hi : lit gs p) : wt gs' p = wt gs p := by unfold wt; rw [SU_stable h hi.2]
theorem map_congr' {α β : Type} {f g : α → β} {l : List α} (h : ∀ x ∈ l, f x = g x) : l.map f = l.map g := List.map_congr_left h
theorem PlanOk.mono (q : PlanOk gs n s l) (h : gs <+: gs') (hn : lit gs n) : PlanOk gs' n s l := by
  have hn2 : n < gs.length := hn.2
  refine ⟨fun p hp => (q.li p hp).mono h, fun p hp => ?_, ?_, by rw [BE_stable h hn2]; exact q.ln, ?_⟩
  · rw [BE_stable h (q.li p hp).2, BE_stable h hn2]; exact q.be p hp
  · rw [map_congr' fun p hp => wt_stable h (q.li p hp), wt_stable h hn]; exact q.wl
  · rw [own_stable h hn, map_congr' fun p hp => own_stable h (q.li p hp), SU_stable h hn2]
    rcases q.kind with ⟨a, b, c⟩ | ⟨a, b, c⟩
    · refine .inl ⟨a, b, ?_⟩
      rw [map_congr' (g := fun p => (SU gs p.natAbs).length) fun p hp => by rw [SU_stable h (q.li p hp).2]]
      exact c
    · refine .inr ⟨a, ?_, fun p hp => by rw [SU_stable h (q.li p hp).2]; exact c p hp⟩
      rw [map_congr' (g := fun p => own gs p * 2 ^ ((SU gs n).length - 1 - (SU gs p.natAbs).length)) fun p hp => by rw [own_stable h (q.li p hp), SU_stable h (q.li p hp).2]]
      exact b

theorem dep_lit (w : WG gs) (hl : lit gs p) : Dep (fun ρ => Lit gs ρ p) (SU gs p.natAbs) := fun ρ ρ' e => Lit_dep w hl e

theorem pow_pos' (a : Nat) : 1 ≤ 2 ^ a := Nat.one_le_two_pow
theorem uv_mul {u v : Nat} : u * v + u + v + 1 = (u + 1) * (v + 1) := by rw [Nat.succ_mul, Nat.mul_succ]; rfl
theorem wt_sum : ∀ {ls : List Nat}, (ls.map fun a => 2 ^ a - 1).sum ≤ 2 ^ ls.sum - 1
  | [] => by simp
  | a :: ls => by
    have ih := wt_sum (ls := ls)
    simp only [List.map_cons, List.sum_cons, Nat.pow_add]
    have h1 := pow_pos' a
    have h2 := pow_pos' ls.sum
    have h3 : (2 ^ a - 1) * (2 ^ ls.sum - 1) + (2 ^ a - 1) + (2 ^ ls.sum - 1) + 1 = 2 ^ a * 2 ^ ls.sum := by
      obtain ⟨u, hu⟩ : ∃ u, 2 ^ a = u + 1 := ⟨2 ^ a - 1, by exact (Nat.succ_pred_eq_of_pos h1).symm⟩
      obtain ⟨v, hv⟩ : ∃ v, 2 ^ ls.sum = v + 1 := ⟨2 ^ ls.sum - 1, by exact (Nat.succ_pred_eq_of_pos h2).symm⟩
      rw [hu, hv]
      exact uv_mul
    rw [← h3]
    exact Nat.le_trans (Nat.add_le_add_left ih _) (Nat.add_le_add_right (Nat.le_add_left _ _) _)
theorem wt_sum2 {ls : List Nat} (h1 : ∀ a ∈ ls, 1 ≤ a) (h2 : 2 ≤ ls.length) : (ls.map fun a => 2 ^ a - 1).sum + 1 ≤ 2 ^ ls.sum - 1 := by
  cases ls with
  | nil => simp at h2
  | cons a ls =>
  cases ls with
  | nil => simp at h2
  | cons b ls =>
    have ha := h1 a (by simp)
    have hb := h1 b (by simp)
    have ih := wt_sum (ls := b :: ls)
    simp only [List.map_cons, List.sum_cons] at ih ⊢
    have h3 : 2 ≤ 2 ^ a := by
      have := Nat.pow_le_pow_right (n := 2) (by exact Nat.le_add_left _ _) ha; simpa using this
    have h4 : 2 ≤ 2 ^ (b + ls.sum) := by
      have := Nat.pow_le_pow_right (n := 2) (i := 1) (j := b + ls.sum) (by decide) (by exact Nat.le_trans hb (Nat.le_add_right _ _)); simpa using this
    rw [Nat.pow_add 2 a]
    have h5 : (2 ^ a - 1) * (2 ^ (b + ls.sum) - 1) + (2 ^ a - 1) + (2 ^ (b + ls.sum) - 1) + 1 = 2 ^ a * 2 ^ (b + ls.sum) := by
      obtain ⟨u, hu⟩ : ∃ u, 2 ^ a = u + 1 := ⟨2 ^ a - 1, (Nat.succ_pred_eq_of_pos (Nat.le_of_lt h3)).symm⟩
      obtain ⟨v, hv⟩ : ∃ v, 2 ^ (b + ls.sum) = v + 1 := ⟨2 ^ (b + ls.sum) - 1, (Nat.succ_pred_eq_of_pos (Nat.le_of_lt h4)).symm⟩
      rw [hu, hv]
      exact uv_mul
    have h6 : 1 ≤ (2 ^ a - 1) * (2 ^ (b + ls.sum) - 1) := Nat.mul_pos (by exact Nat.sub_pos_of_lt h3) (by exact Nat.sub_pos_of_lt h4)
    rw [← h5]
    exact Nat.le_trans (Nat.add_le_add (Nat.add_le_add_left ih _) h6) (Nat.le_of_eq ((Nat.add_comm _ _).trans (Nat.add_assoc _ _ _).symm))

/-- lots: the count is the product of the lots' counts -/
theorem lots_cnt (w : WG gs) : ∀ {L : List Lot}, (∀ o ∈ L, LotOk gs o) → L.Pairwise Apart → (∀ o ∈ L, ∀ p ∈ o.1, lit gs p) →
    cnt (L.flatMap (·.2)) (fun ρ => L.all fun o => o.1.all (Lit gs ρ)) = (L.map fun o => cnt o.2 fun ρ => o.1.all (Lit gs ρ)).foldr (· * ·) 1 ∧ Dep (fun ρ => L.all fun o => o.1.all (Lit gs ρ)) (L.flatMap (·.2))
  | [], _, _, _ => by
    refine ⟨by simp [cnt], fun ρ ρ' _ => rfl⟩
  | o :: L, h, hd, hl => by
    rw [List.pairwise_cons] at hd
    obtain ⟨ih1, ih2⟩ := lots_cnt w (L := L) (fun x hx => h x (List.mem_cons_of_mem _ hx)) hd.2 (fun x hx => hl x (List.mem_cons_of_mem _ hx))
    have ho := h o List.mem_cons_self
    have hdo : Dep (fun ρ => o.1.all (Lit gs ρ)) o.2 := fun ρ ρ' e => by
      have e' : ∀ p ∈ o.1, Lit gs ρ p = Lit gs ρ' p := fun p hp => Lit_dep w (hl o List.mem_cons_self p hp) fun x hx => e x ((ho.mem x).mpr ⟨p, hp, hx⟩)
      show o.1.all (Lit gs ρ) = o.1.all (Lit gs ρ')
      rw [Bool.eq_iff_iff, List.all_eq_true, List.all_eq_true]
      exact ⟨fun z p hp => by rw [← e' p hp]; exact z p hp, fun z p hp => by rw [e' p hp]; exact z p hp⟩
    have hap : ∀ x ∈ o.2, x ∉ L.flatMap (·.2) := fun x hx hm => by
      obtain ⟨o', ho', hx'⟩ := List.mem_flatMap.mp hm
      exact hd.1 o' ho' x hx hx'
    simp only [List.flatMap_cons, List.all_cons, List.map_cons, List.foldr_cons]
    refine ⟨?_, fun ρ ρ' e => ?_⟩
    · rw [← ih1]; exact cnt_and hdo ih2 hap
    · have e1 := hdo ρ ρ' fun x hx => e x (List.mem_append_left _ hx)
      have e2 := ih2 ρ ρ' fun x hx => e x (List.mem_append_right _ hx)
      dsimp only at e1 e2 ⊢
      rw [e1, e2]

theorem foldl_mul : ∀ {l : List Nat} {a : Nat}, l.foldl (· * ·) a = a * l.foldr (· * ·) 1
  | [], a => by simp
  | b :: l, a => by simp only [List.foldl_cons, List.foldr_cons]; rw [foldl_mul, Nat.mul_assoc]

theorem flat_nodup : ∀ {L : List Lot}, (∀ o ∈ L, LotOk gs o) → L.Pairwise Apart → (L.flatMap (·.2)).Nodup
  | [], _, _ => by simp
  | o :: L, h, hd => by
    rw [List.pairwise_cons] at hd
    simp only [List.flatMap_cons]
    rw [List.nodup_append]
    refine ⟨(h o List.mem_cons_self).nd, flat_nodup (fun x hx => h x (List.mem_cons_of_mem _ hx)) hd.2, fun a ha b hb e => ?_⟩
    subst e
    obtain ⟨o', ho', hx'⟩ := List.mem_flatMap.mp hb
    exact hd.1 o' ho' a ha hx'

/-- a lot and the gate that stands for it -/
structure LotR (C C1 : Circ) (B : Nat) (o : Lot) (r : Int) : Prop where
  li : lit C1.gs r
  sem : ∀ ρ, Lit C1.gs ρ r = o.1.all (Lit C.gs ρ)
  su : ∀ x, x ∈ SU C1.gs r.natAbs ↔ x ∈ o.2
  be : (BE C1.gs r.natAbs).length ≤ B
theorem LotR.mono {C C1 C2 : Circ} {B : Nat} {o : Lot} {r : Int} (q : LotR C C1 B o r) (h : C1.gs <+: C2.gs) : LotR C C2 B o r :=
  ⟨q.li.mono h, fun ρ => by rw [Lit_stable h q.li]; exact q.sem ρ, by rw [SU_stable h q.li.2]; exact q.su, by rw [BE_stable h q.li.2]; exact q.be⟩

theorem LotR.make {C C1 C2 : Circ} {o : Lot} {r : Int} (w : WG C.gs) (hg : C.gs[n]? = some ("and", ps)) (h1 : 1 ≤ n) (hpre : C.gs <+: C1.gs) (ho : LotOk C.gs o) (hs : ∀ p ∈ o.1, p ∈ ps) (hnd : o.1.Nodup) (a : AllOk C1 o.1 C2 r) :
    LotR C C2 (BE C.gs n).length o r := by
  have q := w.parts h1 hg
  have hn := get_lt hg
  have hl : ∀ p ∈ o.1, lit C.gs p := fun p hp => q.lit hg p (hs p hp)
  have hf : FOk C1.gs o.1 := ⟨hnd, fun p hp => ⟨(hl p hp).mono hpre, (q.1 p (hs p hp)).1⟩, fun p hp hm => q.2.2.1 p (hs p hp) (hs _ hm)⟩
  have hpre2 := hpre.trans a.pre
  have hsem : ∀ ρ, Lit C2.gs ρ r = o.1.all (Lit C.gs ρ) := fun ρ => by
    rw [a.sem, Bool.eq_iff_iff, List.all_eq_true, List.all_eq_true]
    exact ⟨fun z p hp => by rw [← Lit_stable hpre (hl p hp)]; exact z p hp, fun z p hp => by rw [Lit_stable hpre (hl p hp)]; exact z p hp⟩
  rcases a.full hf ho.ne with e | ⟨m, qs, e1, e2, e3, e4⟩
  · have hr : r ∈ o.1 := by rw [e]; simp
    refine ⟨a.li, hsem, fun x => ?_, ?_⟩
    · rw [SU_stable hpre2 (hl r hr).2, ho.mem]
      constructor
      · intro z; exact ⟨r, hr, z⟩
      · rintro ⟨p, hp, z⟩
        rw [e] at hp
        rw [List.mem_singleton.mp hp] at z; exact z
    · rw [BE_stable hpre2 (hl r hr).2]
      exact len_le_of_sub (BE_nodup w (hl r hr).1 (hl r hr).2) (BE_trans w h1 hn ((mem_BE_and w h1 hg).mpr (.inr ⟨r, hs r hr, BE_self w (hl r hr).1 (hl r hr).2⟩)))
  · subst e1
    refine ⟨a.li, hsem, fun x => ?_, ?_⟩
    · show x ∈ SU C2.gs m ↔ _
      rw [mem_SU_and a.wc.wg e2 e3, ho.mem]
      constructor
      · rintro ⟨p, hp, hx⟩
        have hp' := e4.mem_iff.mp hp
        exact ⟨p, hp', by rw [← SU_stable hpre2 (hl p hp').2]; exact hx⟩
      · rintro ⟨p, hp, hx⟩
        exact ⟨p, e4.mem_iff.mpr hp, by rw [SU_stable hpre2 (hl p hp).2]; exact hx⟩
    · show (BE C2.gs m).length ≤ _
      have hself := BE_self w h1 hn
      have hlen := List.length_erase_of_mem hself
      have hpos := List.length_pos_of_mem hself
      have := len_le_of_sub (m := (m : Int) :: (BE C.gs n).erase (n : Int)) (BE_nodup a.wc.wg e2 (get_lt e3)) fun x hx => by
        rcases (mem_BE_and a.wc.wg e2 e3).mp hx with rfl | ⟨p, hp, hx⟩
        · exact List.mem_cons_self
        · have hp' := e4.mem_iff.mp hp
          rw [BE_stable hpre2 (hl p hp').2] at hx
          refine List.mem_cons_of_mem _ ?_
          obtain ⟨y, e, _, hy⟩ := BE_range w _ (hl p hp').1 (hl p hp').2 x hx
          rw [List.mem_erase_of_ne (a := x) (b := (n : Int)) (fun e' => absurd (Nat.lt_of_le_of_lt hy (q.lt p (hs p hp'))) (Nat.not_lt_of_le (Nat.le_of_eq (Int.ofNat.inj (e'.symm.trans e)))))]
          exact (mem_BE_and w h1 hg).mpr (.inr ⟨p, hs p hp', hx⟩)
      simp only [List.length_cons] at this
      exact Nat.le_trans this (by rw [hlen]; exact Nat.le_of_eq (Nat.sub_add_cancel hpos))

theorem sum_map_len {L : List Lot} : (L.map fun o => o.2.length).sum = (L.flatMap (·.2)).length := by
  induction L with
  | nil => rfl
  | cons o L ih => rw [List.map_cons, List.sum_cons, ih, List.flatMap_cons, List.length_append]

theorem plan_product {C C1 : Circ} {L : List Lot} {M : List (Lot × Int)} (w : WG C.gs) (w1 : WG C1.gs) (hpre : C.gs <+: C1.gs) (hg : C.gs[n]? = some ("and", ps)) (h1 : 1 ≤ n) (hL : LotsOk C.gs ps L) (h2 : 2 ≤ L.length)
    (hM : M.map (·.1) = L) (hR : ∀ m ∈ M, LotR C C1 (BE C.gs n).length m.1 m.2) : PlanOk C1.gs n "product" (M.map (·.2)) := by
  have q := w.parts h1 hg
  have hn := get_lt hg
  have hps : ∀ o ∈ L, ∀ p ∈ o.1, p ∈ ps := fun o ho p hp => hL.perm.mem_iff.mp (List.mem_flatMap.mpr ⟨o, ho, hp⟩)
  have hlit : ∀ o ∈ L, ∀ p ∈ o.1, lit C.gs p := fun o ho p hp => q.lit hg p (hps o ho p hp)
  have hmL : ∀ m ∈ M, m.1 ∈ L := fun m hm => by rw [← hM]; exact List.mem_map.mpr ⟨m, hm, rfl⟩
  have hperm : ∀ m ∈ M, (SU C1.gs m.2.natAbs).Perm m.1.2 := fun m hm => perm_of_mem (SU_nodup w1 (hR m hm).li.1 (hR m hm).li.2) (hL.all _ (hmL m hm)).nd (hR m hm).su
  have hflat : (SU C.gs n).Perm (L.flatMap (·.2)) := perm_of_mem (SU_nodup w h1 hn) (flat_nodup hL.all hL.dis) fun x => by
    rw [mem_SU_and w h1 hg, List.mem_flatMap]
    constructor
    · rintro ⟨p, hp, hx⟩
      obtain ⟨o, ho, hpo⟩ := List.mem_flatMap.mp (hL.perm.mem_iff.mpr hp)
      exact ⟨o, ho, ((hL.all o ho).mem x).mpr ⟨p, hpo, hx⟩⟩
    · rintro ⟨o, ho, hx⟩
      obtain ⟨p, hpo, hx⟩ := ((hL.all o ho).mem x).mp hx
      exact ⟨p, hps o ho p hpo, hx⟩
  refine ⟨fun p hp => ?_, fun p hp => ?_, ?_, ?_, .inl ⟨rfl, ?_, ?_⟩⟩
  · obtain ⟨m, hm, rfl⟩ := List.mem_map.mp hp; exact (hR m hm).li
  · obtain ⟨m, hm, rfl⟩ := List.mem_map.mp hp
    rw [BE_stable hpre hn]; exact (hR m hm).be
  · have e : ((M.map (·.2)).map (wt C1.gs)) = (L.map fun o => o.2.length).map fun a => 2 ^ a - 1 := by
      rw [← hM, List.map_map, List.map_map, List.map_map]
      refine map_congr' fun m hm => ?_
      show 2 ^ _ - 1 = 2 ^ _ - 1
      rw [(hperm m hm).length_eq]
    have hw : wt C1.gs (n : Int) = 2 ^ (L.map fun o => o.2.length).sum - 1 := by
      show 2 ^ (SU C1.gs n).length - 1 = _
      rw [SU_stable hpre hn, hflat.length_eq, sum_map_len]
    rw [e, hw]
    refine wt_sum2 (fun a ha => ?_) (by simpa using h2)
    obtain ⟨o, ho, rfl⟩ := List.mem_map.mp ha
    have oo := hL.all o ho
    cases hs : o.1 with
    | nil => exact absurd hs oo.ne
    | cons p r =>
      have hpo : p ∈ o.1 := by rw [hs]; exact List.mem_cons_self
      cases hsu : SU C.gs p.natAbs with
      | nil => exact absurd hsu (SU_ne w _ (q.1 p (hps o ho p hpo)).1 (hlit o ho p hpo).2)
      | cons x r =>
        have : x ∈ o.2 := (oo.mem x).mpr ⟨p, hpo, by rw [hsu]; exact List.mem_cons_self⟩
        exact List.length_pos_of_mem this
  · have h3 := lots_len hL.all
    have h4 := hL.perm.length_eq
    have h5 := parts_len w h1 hg
    have h6 := congrArg List.length hM
    rw [BE_stable hpre hn]
    simp only [List.length_map] at h6 ⊢
    exact Nat.le_trans (Nat.le_of_eq h6) (Nat.le_trans h3 (Nat.le_trans (Nat.le_of_eq h4) (Nat.le_of_lt h5)))
  · rw [foldl_mul, Nat.one_mul]
    have e1 : own C1.gs (n : Int) = cnt (L.flatMap (·.2)) (fun ρ => L.all fun o => o.1.all (Lit C.gs ρ)) := by
      show cnt (SU C1.gs n) _ = _
      rw [SU_stable hpre hn, cnt_perm hflat]
      refine cnt_congr fun ρ => ?_
      rw [Lit_pos h1, V_stable hpre hn, V_and hg q.lt, Bool.eq_iff_iff, List.all_eq_true, List.all_eq_true]
      constructor
      · intro z o ho; rw [List.all_eq_true]; exact fun p hp => z p (hps o ho p hp)
      · intro z p hp
        obtain ⟨o, ho, hpo⟩ := List.mem_flatMap.mp (hL.perm.mem_iff.mpr hp)
        have := z o ho
        rw [List.all_eq_true] at this
        exact this p hpo
    rw [e1, (lots_cnt w hL.all hL.dis hlit).1, ← hM, List.map_map, List.map_map]
    congr 1
    refine map_congr' fun m hm => ?_
    show cnt m.1.2 _ = cnt (SU C1.gs m.2.natAbs) _
    rw [cnt_perm (hperm m hm)]
    exact cnt_congr fun ρ => ((hR m hm).sem ρ).symm
  · refine Nat.le_of_eq ?_
    rw [SU_stable hpre hn, hflat.length_eq, ← sum_map_len, ← hM, List.map_map, List.map_map]
    congr 1
    refine map_congr' fun m hm => ?_
    exact (hperm m hm).length_eq

theorem plan_sum {C C1 C2 : Circ} {x : Nat} {r1 r2 : Int} (w : WG C.gs) (h1 : 1 ≤ n) (hn : n < C.gs.length) (hx : (x : Int) ∈ SU C.gs n) (hb2 : 2 ≤ (BE C.gs n).length) (q1 : SettledOk C C1 n x false r1) (q2 : SettledOk C1 C2 n x true r2) : PlanOk C2.gs n "sum" [r1, r2] := by
  have w1 := q1.wc.wg
  have w2 := q2.wc.wg
  have hpre := q1.pre.trans q2.pre
  have hn1 : n < C1.gs.length := Nat.lt_of_lt_of_le hn q1.pre.length_le
  have l1 := q1.li.mono q2.pre
  have l2 := q2.li
  have hSUn : SU C2.gs n = SU C.gs n := SU_stable hpre hn
  have hnd := SU_nodup w h1 hn
  have s1 : ∀ y ∈ SU C2.gs r1.natAbs, y ∈ (SU C.gs n).erase x := fun y hy => by
    rw [SU_stable q2.pre q1.li.2] at hy
    obtain ⟨a, b⟩ := q1.su y hy
    rw [List.mem_erase_of_ne b]; exact a
  have s2 : ∀ y ∈ SU C2.gs r2.natAbs, y ∈ (SU C.gs n).erase x := fun y hy => by
    obtain ⟨a, b⟩ := q2.su y hy
    rw [SU_stable q1.pre hn] at a
    rw [List.mem_erase_of_ne b]; exact a
  have hel : ((SU C.gs n).erase (x : Int)).length = (SU C.gs n).length - 1 := List.length_erase_of_mem hx
  have hpos := List.length_pos_of_mem hx
  have hend : ((SU C.gs n).erase (x : Int)).Nodup := hnd.erase _
  obtain ⟨c1, d1⟩ := cnt_sub (SU_nodup w2 l1.1 l1.2) hend s1 (dep_lit w2 l1)
  obtain ⟨c2, d2⟩ := cnt_sub (SU_nodup w2 l2.1 l2.2) hend s2 (dep_lit w2 l2)
  rw [hel] at c1 c2 d1 d2
  refine ⟨fun p hp => ?_, fun p hp => ?_, ?_, by rw [BE_stable hpre hn]; exact hb2, .inr ⟨rfl, ?_, fun p hp => ?_⟩⟩
  · simp at hp; rcases hp with rfl | rfl
    · exact l1
    · exact l2
  · simp at hp; rcases hp with rfl | rfl
    · rw [BE_stable q2.pre q1.li.2, BE_stable hpre hn]; exact q1.be
    · rw [BE_stable hpre hn]; have := q2.be; rw [BE_stable q1.pre hn] at this; exact this
  · simp only [List.map_cons, List.map_nil, List.sum_cons, List.sum_nil]
    show 2 ^ _ - 1 + (2 ^ _ - 1 + 0) + 1 ≤ 2 ^ (SU C2.gs n).length - 1
    rw [hSUn]
    have e1 := Nat.pow_le_pow_right (n := 2) (by exact Nat.le_add_left _ _) c1
    have e2 := Nat.pow_le_pow_right (n := 2) (by decide) c2
    have e3 : 2 ^ (SU C.gs n).length = 2 * 2 ^ ((SU C.gs n).length - 1) := by
      rw [← Nat.pow_succ']; congr 1; exact (Nat.sub_add_cancel hpos).symm
    have e4 := pow_pos' ((SU C.gs n).length - 1)
    have e5 := pow_pos' (SU C2.gs r1.natAbs).length
    have e6 := pow_pos' (SU C2.gs r2.natAbs).length
    have := Nat.add_le_add (Nat.le_trans (Nat.le_of_eq (Nat.sub_add_cancel e5)) e1) (Nat.le_trans (Nat.le_of_eq (Nat.sub_add_cancel e6)) e2)
    rw [e3, Nat.two_mul]
    exact Nat.le_sub_of_add_le (Nat.le_trans (Nat.le_of_eq (congrArg Nat.succ (Nat.add_right_comm _ _ 1))) this)
  · simp only [List.map_cons, List.map_nil, List.sum_cons, List.sum_nil, Nat.add_zero]
    show cnt (SU C2.gs n) _ = _
    rw [hSUn, cnt_erase hx, Nat.mul_comm (own _ _), Nat.mul_comm (own _ _)]
    congr 1
    · refine Eq.trans ?_ d1
      refine cnt_congr fun ρ => ?_
      rw [Lit_pos h1, V_stable hpre hn, Lit_stable q2.pre q1.li, q1.sem]
    · refine Eq.trans ?_ d2
      refine cnt_congr fun ρ => ?_
      rw [Lit_pos h1, V_stable hpre hn, q2.sem, V_stable q1.pre hn]
  · simp at hp
    rw [hSUn]
    rcases hp with rfl | rfl
    · exact c1
    · exact c2
end
end Mine
end
section
set_option Elab.async false
set_option maxRecDepth 100000
set_option linter.unusedVariables false
set_option linter.unusedSimpArgs false
namespace Mine

structure TOk (gs : Gates) (S : Tabs) : Prop where
  su : SuOk gs S.su
  kn : ∀ k v, (k, v) ∈ S.kn → ∃ n : Nat, k = n ∧ 1 ≤ n ∧ n < gs.length ∧ v = own gs n
  knN : (S.kn.map (·.1)).Nodup
  pl : ∀ k v, (k, v) ∈ S.pl → ∃ n : Nat, k = n ∧ 1 ≤ n ∧ n < gs.length ∧ PlanOk gs n v.1 v.2
  plN : (S.pl.map (·.1)).Nodup

section
variable {gs gs' : Gates} {S : Tabs}
theorem TOk.mono (t : TOk gs S) (h : gs <+: gs') : TOk gs' S := by
  refine ⟨t.su.mono h, fun k v hm => ?_, t.knN, fun k v hm => ?_, t.plN⟩
  · obtain ⟨n, a, b, c, d⟩ := t.kn k v hm
    exact ⟨n, a, b, Nat.lt_of_lt_of_le c h.length_le, by rw [own_stable h (p := (n : Int)) ⟨b, c⟩]; exact d⟩
  · obtain ⟨n, a, b, c, d⟩ := t.pl k v hm
    exact ⟨n, a, b, Nat.lt_of_lt_of_le c h.length_le, d.mono h ⟨b, c⟩⟩
theorem TOk.setSu (t : TOk gs S) {su : List (Int × List Int)} (s : SuOk gs su) : TOk gs { S with su := su } := ⟨s, t.kn, t.knN, t.pl, t.plN⟩
theorem TOk.plLen (t : TOk gs S) : S.pl.length ≤ gs.length := keys_len (fun k v h => by obtain ⟨n, a, _, b, _⟩ := t.pl k v h; exact ⟨n, a, b⟩) t.plN
theorem TOk.knLen (t : TOk gs S) : S.kn.length ≤ gs.length := keys_len (fun k v h => by obtain ⟨n, a, _, b, _⟩ := t.kn k v h; exact ⟨n, a, b⟩) t.knN
theorem TOk.getPl (t : TOk gs S) {n : Nat} {v : String × List Int} (h : aGet S.pl (n : Int) = some v) : PlanOk gs n v.1 v.2 := by
  obtain ⟨m, a, _, _, d⟩ := t.pl _ _ (aGet_mem h)
  have a : n = m := by exact Int.ofNat.inj a
  subst a; exact d
theorem TOk.getKn (t : TOk gs S) {n : Nat} (h : (n : Int) ∈ S.kn.map (·.1)) : aGet S.kn (n : Int) = some (own gs n : Int) := by
  obtain ⟨v, hv⟩ := keys_get h
  obtain ⟨m, a, _, _, d⟩ := t.kn _ _ (aGet_mem hv)
  have a : n = m := by exact Int.ofNat.inj a
  subst a; rw [hv, d]
theorem TOk.putPl (t : TOk gs S) {n : Nat} {v : String × List Int} (h : (n : Int) ∉ S.pl.map (·.1)) (h1 : 1 ≤ n) (h2 : n < gs.length) (q : PlanOk gs n v.1 v.2) : TOk gs { S with pl := S.pl ++ [((n : Int), v)] } := by
  refine ⟨t.su, t.kn, t.knN, fun k u hm => ?_, nodup_put t.plN h⟩
  rcases List.mem_append.mp hm with z | z
  · exact t.pl k u z
  · simp at z
    obtain ⟨rfl, rfl⟩ := z
    exact ⟨n, rfl, h1, h2, q⟩
theorem TOk.putKn (t : TOk gs S) {n : Nat} (h : (n : Int) ∉ S.kn.map (·.1)) (h1 : 1 ≤ n) (h2 : n < gs.length) : TOk gs { S with kn := S.kn ++ [((n : Int), (own gs n : Int))] } := by
  refine ⟨t.su, fun k u hm => ?_, nodup_put t.knN h, t.pl, t.plN⟩
  rcases List.mem_append.mp hm with z | z
  · exact t.kn k u z
  · simp at z
    obtain ⟨rfl, rfl⟩ := z
    exact ⟨n, rfl, h1, h2, rfl⟩
theorem aGet_append {K V : Type} [DecidableEq K] {l m : List (K × V)} {k : K} {v : V} (h : aGet l k = some v) : aGet (l ++ m) k = some v := by
  unfold aGet at h ⊢
  rw [List.find?_append]
  cases e : l.find? (fun kv => decide (kv.1 = k)) with
  | none => rw [e] at h; cases h
  | some x => rw [e] at h; simpa using h
theorem aGet_snoc {K V : Type} [DecidableEq K] {l : List (K × V)} {k : K} {v : V} (h : ∀ x, (k, x) ∉ l) : aGet (l ++ [(k, v)]) k = some v := by
  rw [← aPut_new h]; exact aGet_put
end

theorem SU_in_BE {gs : Gates} (w : WG gs) : ∀ (i : Nat), 1 ≤ i → i < gs.length → ∀ x ∈ SU gs i, x ∈ BE gs i := by
  intro i
  induction i using Nat.strongRecOn with
  | ind i ih =>
    intro h1 h2 x hx
    cases w.kind h1 h2 with
    | tru _ h => rw [SU_true h] at hx; cases hx
    | inp _ h => rw [SU_input h] at hx; simp at hx; rw [hx]; exact BE_self w h1 h2
    | con ps _ h q =>
      obtain ⟨p, hp, hx⟩ := (mem_SU_and w h1 h).mp hx
      exact (mem_BE_and w h1 h).mpr (.inr ⟨p, hp, ih p.natAbs (q.lt p hp) (q.ge p hp) (Nat.lt_trans (q.lt p hp) h2) x hx⟩)

theorem flat_sub {L : List Lot} {o : Lot} (h : o ∈ L) : o.1.Sublist (L.flatMap (·.1)) := by
  induction L with
  | nil => cases h
  | cons a L ih =>
    simp only [List.flatMap_cons]
    rcases List.mem_cons.mp h with rfl | q
    · exact List.sublist_append_left _ _
    · exact (ih q).trans (List.sublist_append_right _ _)

section
variable {j : SI} {C : Circ} {S : Tabs} {hp : HP} {K : AV → HP → Prop} {n : Nat}

theorem GOk.part {g : Nat} {ps : List Int} (G : GOk C g) (h1 : 1 ≤ g) (hg : C.gs[g]? = some ("and", ps)) : ∀ p ∈ ps, GOk C p := fun p hp => by
  have q := G.wg.parts h1 hg
  have hl := q.lit hg p hp
  refine ⟨G.wg, hl, G.sz, ?_⟩
  have := len_le_of_sub (BE_nodup G.wg hl.1 hl.2) (BE_trans G.wg h1 (get_lt hg) ((mem_BE_and G.wg h1 hg).mpr (.inr ⟨p, hp, BE_self G.wg hl.1 hl.2⟩)))
  have h2 : (BE C.gs g).length ≤ 63 := G.b63
  exact Nat.le_trans this h2

theorem plan_hit {g : Nat} {v : String × List Int} (hv : aGet S.pl (g : Int) = some v) (hs : g ≤ SZ) (hK : K (plV v) (putS j C S hp)) : Call P (n + 1) "Counter.plan" [sAV j, .int g] (putS j C S hp) K := by
  refine call2 rfl ?_
  have hin : (g : Int) ∈ S.pl.map (·.1) := List.mem_map.mpr ⟨_, aGet_mem hv, rfl⟩
  unfold b_Counter_plan
  walk_at "go"
  refine g_nin hk_pl ?_
  walk_at "go"
  refine g_nega (by rw [inK_t hin]; rfl) ?_
  walk_at "go"
  refine g_gi (v := plV v) (by rw [ix_pl, hv]; rfl) (smallN hs) ?_
  walk_at "go"
  exact g_fin0 hK

inductive PlI (j : SI) (C : Circ) (S : Tabs) (su : List (Int × List Int)) (k B : Nat) (L : List Lot) (hp : HP) (xs acc : List AV) (h : HP) : Prop
  | mk (L2 : List Lot) (C1 : Circ) (M : List (Lot × Int)) (e1 : xs = L2.map (fun l => AV.fl (l.1.map .int))) (e2 : M.map (·.1) ++ L2 = L) (e3 : acc = (M.map (·.2)).map .int) (e4 : h = putS j C1 { S with su := su } hp) (w : WC C1) (pre : C.gs <+: C1.gs)
      (R : Room C1 (k + L2.length)) (hM : ∀ m ∈ M, LotR C C1 B m.1 m.2) : PlI j C S su k B L hp xs acc h
theorem plan_ok {g k : Nat} {ps : List Int} (w : WC C) (T : TOk C.gs S) (G : GOk C g) (h1 : 1 ≤ g) (hg : C.gs[g]? = some ("and", ps)) (R : Room C (k + 126))
    (hK : ∀ C' S' v, C.gs <+: C'.gs → WC C' → TOk C'.gs S' → Room C' k → S'.kn = S.kn → (∀ k u, aGet S.pl k = some u → aGet S'.pl k = some u) → aGet S'.pl (g : Int) = some v → K (plV v) (putS j C' S' hp)) :
    Call P (n + 5) "Counter.plan" [sAV j, .int g] (putS j C S hp) K := by
  have hgl := get_lt hg
  have hsz := R.sz
  by_cases hin : (g : Int) ∈ S.pl.map (·.1)
  · obtain ⟨v, hv⟩ := keys_get hin
    exact plan_hit (n := n + 4) hv (by exact Nat.le_trans (Nat.le_of_lt hgl) (Nat.le_trans (Nat.le_mul_of_pos_right _ (by decide)) hsz.1)) (hK C S v (List.prefix_refl _) w T (R.less (by exact Nat.le_add_right _ _)) rfl (fun _ _ h => h) hv)
  have q := w.wg.parts h1 hg
  have hpl := parts_len w.wg h1 hg
  have h63 : (BE C.gs g).length ≤ 63 := G.b63
  have GP := G.part h1 hg
  refine call2 rfl ?_
  unfold b_Counter_plan
  walk_at "go"
  refine g_nin hk_pl ?_
  walk_at "go"
  refine g_pos (by rw [inK_f hin]; rfl) ?_
  walk_at "go"
  refine parts_okS (g := (g : Int)) (q := ("and", ps)) hg (smallN (by exact Nat.le_trans (Nat.le_of_lt hgl) (Nat.le_trans (Nat.le_mul_of_pos_right _ (by decide)) hsz.1))) ?_
  walk_at "go"
  refine groups_ok (ps := ps) w.wg GP hsz.1 (by exact Nat.le_of_lt (Nat.le_trans hpl h63)) T.su fun su L hL s1 => ?_
  have hLl := lots_len hL.all
  rw [hL.perm.length_eq] at hLl
  have hLps : ∀ o ∈ L, ∀ p ∈ o.1, p ∈ ps := fun o ho p hp => hL.perm.mem_iff.mp (List.mem_flatMap.mpr ⟨o, ho, hp⟩)
  have hLnd : ∀ o ∈ L, o.1.Nodup := fun o ho => (hL.perm.nodup_iff.mpr q.2.1).sublist (flat_sub ho)
  -- the plan is laid by, and read again
  have last : ∀ (C' : Circ) (su' : List (Int × List Int)) (v : String × List Int) (l : Loc) (KN : HP → Prop), (∀ h, wpB (Call P (n + 4)) (.cons (.ret (.idx (.attr (.var "self") "plans") (.var "gate"))) .nil) l h (finK K) → KN h) → l "self" = some (sAV j) → l "gate" = some (.int g) → C.gs <+: C'.gs → WC C' → SuOk C'.gs su' → Room C' k → PlanOk C'.gs g v.1 v.2 →
      setK (.ref j.b2) (.int g) (plV v) (putS j C' { S with su := su' } hp) KN := fun C' su' v l KN hKN l1 l2 hpre w' s' R' hP => by
    have hni := notin_keys hin
    have ea : aPut (plL S.pl) (g : Int) (plV v) = plL (S.pl ++ [((g : Int), v)]) := by unfold plL; rw [aPut_map, aPut_new hni]
    refine g_setI putS2 (by unfold plL; rw [List.length_map]; have := T.plLen; show S.pl.length ≤ SZ; exact Nat.le_trans this (Nat.le_trans (Nat.le_mul_of_pos_right _ (by decide)) hsz.1)) ?_
    dsimp only
    rw [ea, putS_set2]
    refine hKN _ ?_
    walk_at "go"
    refine g_gi (v := plV v) (by rw [ix_pl]; dsimp only; rw [aGet_snoc hni]; rfl) (smallN (by exact Nat.le_trans (Nat.le_of_lt hgl) (Nat.le_trans (Nat.le_mul_of_pos_right _ (by decide)) hsz.1))) ?_
    walk_at "go"
    exact g_fin0 (hK C' _ v hpre w' (((T.mono hpre).setSu s').putPl hin h1 (Nat.lt_of_lt_of_le hgl hpre.length_le) hP) R' rfl (fun k u h => aGet_append h) (aGet_snoc hni))
  walk_at "go"
  refine g_len ln_fl (by rw [List.length_map]; unfold SZ; exact Nat.le_trans hLl (Nat.le_trans (Nat.le_of_lt hpl) (Nat.le_trans h63 (by decide)))) ?_
  walk_at "go"
  rw [List.length_map]
  by_cases h2 : 1 < L.length
  · refine g_dpos (by exact Int.ofNat_le.mpr h2) ?_
    walk_at "go"
    refine ⟨_, rfl, by rw [List.length_map]; unfold SZ; omega, ?_⟩
    refine wpComp_ind (PlI j C S su k (BE C.gs g).length L hp) (fun acc h hI => ?_) (fun Q y xs acc h hQ hI => ?_) ⟨L, C, [], rfl, rfl, rfl, rfl, w, List.prefix_refl _, R.less (by omega), fun m hm => (nomatch hm)⟩
    · obtain ⟨L2, C1, M, e1, e2, rfl, rfl, w1, hpre, R1, hM⟩ := hI
      have : L2 = [] := by cases L2 with | nil => rfl | cons _ _ => cases e1
      subst this
      rw [List.append_nil] at e2
      walk_at "go"
      refine last C1 su ("product", M.map (·.2)) (((Loc.set (fun _ => none) "self" (sAV j)).set "gate" (.int g)).set "lots" (.fl (L.map fun l => .fl (l.1.map .int)))) _ ?hkz ?_ ?_ hpre w1 (s1.mono hpre) (R1.less (Nat.le_add_right _ _)) (plan_product w.wg w1.wg hpre hg h1 hL h2 e2 hM)
      case hkz => exact fun h z => g_next (g_nilB (g_next (g_nilB (g_next z))))
      all_goals walk_at "lk"
    · obtain ⟨L2, C1, M, e1, e2, rfl, rfl, w1, hpre, R1, hM⟩ := hI
      cases L2 with
      | nil => cases e1
      | cons o L2 =>
      simp only [List.map_cons, List.cons.injEq] at e1
      obtain ⟨rfl, rfl⟩ := e1
      have ho : o ∈ L := by rw [← e2]; exact List.mem_append_right _ List.mem_cons_self
      have hR1 := R1.sz
      rw [List.length_cons] at R1
      have hol : o.1.length ≤ 63 := by
        have h1 := (flat_sub ho).length_le
        have h2 := hL.perm.length_eq
        omega
      refine ⟨_, rfl, ?_⟩
      refine g_pos rfl ?_
      walk_at "go"
      refine all_of_ok (gs := o.1) rfl (by exact Nat.lt_succ_of_le hol) hR1.2.2 hR1.2.1 ?_
      have AO := allOf_ok w1 (gates := o.1) fun p hp => (q.lit hg p (hLps o ho p hp)).mono hpre
      refine hQ _ _ ⟨L2, (allOf C1 o.1).1, M ++ [(o, (allOf C1 o.1).2)], rfl, by rw [List.map_append, List.append_assoc]; exact e2, by rw [List.map_append, List.map_append]; rfl, rfl, AO.wc, hpre.trans AO.pre, Room.allOf (R1.less (by exact Nat.le_refl _)), fun m hm => ?_⟩
      rcases List.mem_append.mp hm with z | z
      · exact (hM m z).mono AO.pre
      · rw [List.mem_singleton.mp z]
        exact LotR.make w.wg hg h1 hpre (hL.all o ho) (hLps o ho) (hLnd o ho) AO
  · refine g_dneg (by omega) ?_
    walk_at "go"
    obtain ⟨o, rfl⟩ : ∃ o, L = [o] := by
      cases L with
      | nil =>
        have h3 := hL.perm.length_eq
        have h4 := q.2.2.2
        have h5 : (List.flatMap (fun x : Lot => x.1) []).length = 0 := rfl
        omega
      | cons o L =>
        cases L with
        | nil => exact ⟨o, rfl⟩
        | cons _ _ => exact absurd (by rw [List.length_cons, List.length_cons]; exact Nat.le_add_left _ _) h2
    have ho : o ∈ [o] := List.mem_singleton.mpr rfl
    refine g_gi (v := .fl (o.1.map .int)) rfl (by unfold small; exact by decide) ?_
    walk_at "go"
    refine pick_ok (ps := o.1) (D := BE C.gs g) w.wg (fun p hp => GP p (hLps o ho p hp)) (fun p hp => (q.1 p (hLps o ho p hp)).1) (hL.all o ho).ne hsz.1 (fun p hp x hx => ?_) h63 s1 fun su2 x p hp hx s2 => ?_
    · have hpp := hLps o ho p hp
      exact (mem_BE_and w.wg h1 hg).mpr (.inr ⟨p, hpp, SU_in_BE w.wg _ (q.ge p hpp) (Nat.lt_trans (q.lt p hpp) hgl) x hx⟩)
    · have hpp := hLps o ho p hp
      have hxg : (x : Int) ∈ SU C.gs g := (mem_SU_and w.wg h1 hg).mpr ⟨p, hpp, hx⟩
      have hgx : g ≠ x := fun e => by
        obtain ⟨m, e1, _, e2, _⟩ := SU_inputs w.wg _ (q.ge p hpp) (Nat.lt_trans (q.lt p hpp) hgl) x hx
        have := q.lt p hpp; omega
      walk_at "go"
      refine settled_ok (b := false) (k := k + 63) w G (R.less (by exact Nat.le_refl _)) s2 hgx hxg rfl fun C1 su3 r1 q1 R1 s3 => ?_
      walk_at "go"
      refine settled_ok (b := true) (k := k) q1.wc (G.mono q1.wc.wg q1.pre R1.sz.1) R1 s3 hgx (by rw [SU_stable q1.pre hgl]; exact hxg) rfl fun C2 su4 r2 q2 R2 s4 => ?_
      walk_at "go"
      refine last C2 su4 ("sum", [r1, r2]) ((((Loc.set (fun _ => none) "self" (sAV j)).set "gate" (.int g)).set "lots" (.fl ([o].map fun l => .fl (l.1.map .int)))).set "x" (.int x)) _ ?hkz ?_ ?_ (q1.pre.trans q2.pre) q2.wc s4 R2 (plan_sum w.wg h1 hgl hxg (by have := q.2.2.2; exact Nat.lt_trans this hpl) q1 q2)
      case hkz => exact fun h z => g_next (g_nilB (g_next (g_nilB (g_next z))))
      all_goals walk_at "lk"
end
end Mine
end
section
set_option Elab.async false
set_option maxRecDepth 100000
set_option linter.unusedVariables false
set_option linter.unusedSimpArgs false
namespace Mine

noncomputable def isAnd (gs : Gates) (i : Nat) : Bool := match gs[i]? with | some g => decide (g.1 = "and") | none => false
noncomputable def ready (gs : Gates) (S : Tabs) (p : Int) : Bool := inK S.kn p.natAbs || !isAnd gs p.natAbs

structure GK (C : Circ) (g : Int) : Prop where
  ok : GOk C g
  s10 : (SU C.gs g.natAbs).length ≤ 10

section
variable {gs gs' : Gates} {S : Tabs} {p : Int} {n : Nat} {ps : List Int}
theorem isAnd_stable (h : gs <+: gs') {i : Nat} (hi : i < gs.length) : isAnd gs' i = isAnd gs i := by
  obtain ⟨m, rfl⟩ := h
  unfold isAnd; rw [List.getElem?_append_left hi]
theorem isAnd_get {i : Nat} (h : isAnd gs i = true) : ∃ ps, gs[i]? = some ("and", ps) := by
  unfold isAnd at h
  split at h
  · rename_i g hg
    have e := of_decide_eq_true h
    exact ⟨g.2, by rw [hg, ← e]⟩
  · cases h
theorem own_neg (hl : lit gs p) : own gs (-p) + own gs p = 2 ^ (SU gs p.natAbs).length := by
  unfold own
  rw [Int.natAbs_neg, Nat.add_comm, ← cnt_not (f := fun ρ => Lit gs ρ p)]
  congr 1
  exact cnt_congr fun ρ => Lit_neg hl
theorem own_le : own gs p ≤ 2 ^ (SU gs p.natAbs).length := cnt_le
theorem pow_small {a : Nat} (h : a ≤ 50) : 2 ^ a ≤ 1125899906842624 := Nat.pow_le_pow_right (n := 2) (i := a) (j := 50) (by exact Nat.le_add_left _ _) h
theorem own_one (w : WG gs) : own gs 1 = 1 := by
  unfold own
  show cnt (SU gs 1) _ = 1
  rw [SU_true w.g1]
  simp [cnt, Lit_one w]
theorem own_neg_one (w : WG gs) : own gs (-1) = 0 := by
  unfold own
  show cnt (SU gs 1) _ = 0
  rw [SU_true w.g1]
  simp [cnt, Lit_neg_one w]
theorem own_input (w : WG gs) (h1 : 1 ≤ p.natAbs) (h : gs[p.natAbs]? = some ("input", ps)) : own gs p = 1 := by
  unfold own
  rw [SU_input h]
  have e : ∀ ρ, Lit gs ρ p = (ρ (p.natAbs : Int) == decide (0 < p)) := fun ρ => by unfold Lit; rw [V_input h]
  simp only [cnt, e, upd_self]
  by_cases q : 0 < p <;> simp [q]
end

section
variable {j : SI} {C : Circ} {S : Tabs} {hp : HP} {K : AV → HP → Prop} {n : Nat}

theorem g_split {b : Bool} {X Y : Prop} (h1 : b = true → X) (h2 : b = false → Y) : if b then X else Y := by
  cases b with
  | true => exact g_pos rfl (h1 rfl)
  | false => exact g_neg0 (h2 rfl)

theorem is_ready_ok {p : Int} (hl : lit C.gs p) (hz : C.gs.length ≤ SZ) (hK : K (.bool (ready C.gs S p)) (putS j C S hp)) : Call P (n + 2) "Counter.is_ready" [sAV j, .int p] (putS j C S hp) K := by
  refine call2 rfl ?_
  unfold b_Counter_is_ready
  unfold ready at hK
  walk_at "go"
  refine g_in hk_kn ?_
  walk_at "go"
  refine g_split (fun h => ?_) fun h => ?_
  · rw [h] at hK
    walk_at "go"
    exact g_fin0 hK
  · rw [h, Bool.false_or] at hK
    obtain ⟨q, hg⟩ : ∃ q, C.gs[p.natAbs]? = some q := ⟨_, List.getElem?_eq_getElem hl.2⟩
    have hlt := hl.2
    walk_at "go"
    refine kind_okS (g := (p.natAbs : Int)) hg (smallN (by show p.natAbs ≤ SZ; exact Nat.le_of_lt (Nat.le_trans hlt hz))) ?_
    walk_at "go"
    unfold isAnd at hK
    rw [hg] at hK
    dsimp only at hK
    have e : (!decide (q.1 = "and")) = decide (q.1 ≠ "and") := by by_cases e : q.1 = "and" <;> simp [e]
    rw [e] at hK
    exact g_fin0 hK

theorem own_ok {p : Int} (T : TOk C.gs S) (G : GK C p) (hr : ready C.gs S p = true) (hK : ∀ su, SuOk C.gs su → K (.int (own C.gs p)) (putS j C { S with su := su } hp)) :
    Call P (n + 4) "Counter.own" [sAV j, .int p] (putS j C S hp) K := by
  obtain ⟨⟨w, hl, hz, h63⟩, h10⟩ := G
  obtain ⟨z, hg⟩ : ∃ q, C.gs[p.natAbs]? = some q := ⟨_, List.getElem?_eq_getElem hl.2⟩
  have hg' : C.gs[((p.natAbs : Int)).natAbs]? = some z := hg
  have hlt := hl.2
  have hsm : small ((p.natAbs : Int)).natAbs := smallN (by show p.natAbs ≤ SZ; exact Nat.le_trans (Nat.le_of_lt hlt) (Nat.le_trans (Nat.le_mul_of_pos_right _ (by decide)) hz))
  refine call2 rfl ?_
  unfold b_Counter_own
  walk_at "go"
  refine kind_okS hg' hsm ?_
  walk_at "go"
  cases w.kind hl.1 hl.2 with
  | tru e hk =>
    rw [hk] at hg
    have hg := Option.some.inj hg
    subst hg
    refine g_dpos rfl ?_
    walk_at "go"
    by_cases hp' : p > 0
    · have e : p = 1 := by omega
      subst e
      have := hK S.su T.su
      rw [own_one w] at this
      refine g_dpos hp' ?_
      walk_at "go"
      exact g_fin0 this
    · have e : p = -1 := by omega
      subst e
      have := hK S.su T.su
      rw [own_neg_one w] at this
      refine g_dneg hp' ?_
      walk_at "go"
      exact g_fin0 this
  | inp e hk =>
    have hg2 := hg
    rw [hk] at hg2
    have hg2 := Option.some.inj hg2
    subst hg2
    have := hK S.su T.su
    rw [own_input w hl.1 hk] at this
    refine g_dneg (by decide) ?_
    walk_at "go"
    refine kind_okS hg' hsm ?_
    walk_at "go"
    refine g_dpos rfl ?_
    walk_at "go"
    exact g_fin0 this
  | con ps e hk q =>
    have hg2 := hg
    rw [hk] at hg2
    have hg2 := Option.some.inj hg2
    subst hg2
    have hin : ((p.natAbs : Nat) : Int) ∈ S.kn.map (·.1) := by
      unfold ready isAnd at hr
      rw [hk] at hr
      simpa [inK] using hr
    have hget := T.getKn hin
    refine g_dneg (show ¬ "and" = "true" by decide) ?_
    walk_at "go"
    refine kind_okS hg' hsm ?_
    walk_at "go"
    refine g_dneg (show ¬ "and" = "input" by decide) ?_
    walk_at "go"
    refine g_gi (v := .int (own C.gs (p.natAbs : Int))) (by rw [ix_kn, hget]; rfl) hsm ?_
    walk_at "go"
    by_cases hp' : p > 0
    · have e : ((p.natAbs : Nat) : Int) = p := by exact Int.natAbs_of_nonneg (Int.le_of_lt hp')
      have := hK S.su T.su
      refine g_dpos hp' ?_
      walk_at "go"
      rw [e]
      exact g_fin0 this
    · refine g_dneg hp' ?_
      walk_at "go"
      refine support_ok ⟨w, hl, hz, h63⟩ T.su fun su s => ?_
      walk_at "go"
      refine g_len ln_fd (by unfold SZ; exact Nat.le_trans h10 (Nat.le_add_left _ _)) ?_
      walk_at "go"
      refine g_shl (by unfold small; exact by decide) (by exact Int.natCast_nonneg _) (by exact Int.le_trans (Int.ofNat_le.mpr h10) (by decide)) ?_
      walk_at "go"
      refine g_fin0 ?_
      have := hK su s
      have e : -((p.natAbs : Nat) : Int) = p := by omega
      have hh := own_neg (gs := C.gs) (p := (p.natAbs : Int)) hl
      rw [e] at hh
      have hle := own_le (gs := C.gs) (p := p)
      have e2 : (1 : Int) * 2 ^ ((SU C.gs p.natAbs).length : Int).toNat - (own C.gs (p.natAbs : Int) : Int) = ((own C.gs p : Nat) : Int) := by
        have h3 : ((own C.gs p : Nat) : Int) + (own C.gs (p.natAbs : Int) : Nat) = ((2 ^ (SU C.gs p.natAbs).length : Nat) : Int) := by exact_mod_cast hh
        have h4 : ((2 ^ (SU C.gs p.natAbs).length : Nat) : Int) = (2 : Int) ^ ((SU C.gs p.natAbs).length : Int).toNat := by rw [Int.toNat_natCast]; exact Int.natCast_pow 2 _
        rw [← h4]; omega
      rw [e2]
      exact this
end
end Mine
end
section
set_option Elab.async false
set_option maxRecDepth 100000
set_option linter.unusedVariables false
set_option linter.unusedSimpArgs false
namespace Mine

section
variable {j : SI} {C : Circ} {S : Tabs} {hp : HP} {K : AV → HP → Prop} {n : Nat}

theorem sum_mem_le {l : List Int} {f : Int → Nat} {p : Int} (h : p ∈ l) : f p ≤ (l.map f).sum := by
  induction l with
  | nil => cases h
  | cons a l ih =>
    simp only [List.map_cons, List.sum_cons]
    rcases List.mem_cons.mp h with rfl | q
    · exact Nat.le_add_right _ _
    · have := ih q; exact Nat.le_trans this (Nat.le_add_left _ _)
theorem sum_cast {l : List Int} {f : Int → Nat} : (l.map fun p => ((f p : Nat) : Int)).sum = (((l.map f).sum : Nat) : Int) := by
  induction l with
  | nil => rfl
  | cons a l ih => simp only [List.map_cons, List.sum_cons, ih]; exact rfl
theorem PlanOk.slt {gs : Gates} {g : Nat} {s : String} {l : List Int} (q : PlanOk gs g s l) : ∀ p ∈ l, (SU gs p.natAbs).length < (SU gs g).length := fun p hp => by
  have h1 := sum_mem_le (f := wt gs) hp
  have h2 := q.wl
  have h3 : wt gs p < wt gs g := by exact Nat.lt_of_le_of_lt h1 h2
  unfold wt at h3
  have h4 := pow_pos' (SU gs p.natAbs).length
  have h5 : 2 ^ (SU gs p.natAbs).length < 2 ^ (SU gs (g : Int).natAbs).length := Nat.lt_of_not_le fun h => absurd h3 (Nat.not_lt_of_le (Nat.sub_le_sub_right h 1))
  exact (Nat.pow_lt_pow_iff_right (by exact Nat.le_refl _)).mp h5
theorem PlanOk.gk {g : Nat} {s : String} {l : List Int} (q : PlanOk C.gs g s l) (G : GK C g) : ∀ p ∈ l, GK C p := fun p hp => by
  have h1 : (SU C.gs g).length ≤ 10 := G.s10
  have h2 : (BE C.gs g).length ≤ 63 := G.ok.b63
  refine ⟨⟨G.ok.wg, q.li p hp, G.ok.sz, ?_⟩, ?_⟩
  · have := q.be p hp; exact Nat.le_trans this h2
  · have := q.slt p hp; exact Nat.le_of_lt (Nat.le_trans this h1)

theorem prod_le {gs : Gates} : ∀ {l : List Int}, (l.map (own gs)).foldr (· * ·) 1 ≤ 2 ^ (l.map fun p => (SU gs p.natAbs).length).sum
  | [] => by simp
  | p :: l => by
    simp only [List.map_cons, List.foldr_cons, List.sum_cons, Nat.pow_add]
    exact Nat.mul_le_mul own_le prod_le

theorem GK.b63 {p : Int} (G : GK C p) : (SU C.gs p.natAbs).length ≤ 10 ∧ own C.gs p ≤ 1024 := by
  refine ⟨G.s10, Nat.le_trans own_le ?_⟩
  exact Nat.pow_le_pow_right (n := 2) (i := _) (j := 10) (by exact Nat.le_add_left _ _) G.s10

inductive CoI (j : SI) (C : Circ) (S : Tabs) (hp : HP) (ps : List Int) (xs : List AV) (l : Loc) (h : HP) : Prop
  | mk (su : List (Int × List Int)) (pr rest : List Int) (e1 : xs = rest.map .int) (e2 : pr ++ rest = ps) (l1 : l "self" = some (sAV j)) (l2 : l "found" = some (.int ((pr.map (own C.gs)).foldl (· * ·) 1 : Nat))) (eh : h = putS j C { S with su := su } hp) (s : SuOk C.gs su) : CoI j C S hp ps xs l h
inductive CoJ (j : SI) (C : Circ) (S : Tabs) (hp : HP) (f : Int → AV) (ps : List Int) (xs acc : List AV) (h : HP) : Prop
  | mk (su : List (Int × List Int)) (pr rest : List Int) (e1 : xs = rest.map .int) (e2 : pr ++ rest = ps) (e3 : acc = pr.map f) (eh : h = putS j C { S with su := su } hp) (s : SuOk C.gs su) : CoJ j C S hp f ps xs acc h

theorem combined_ok {g : Nat} {v : String × List Int} (w : WC C) (T : TOk C.gs S) (G : GK C g) (hv : aGet S.pl (g : Int) = some v) (hr : ∀ p ∈ v.2, ready C.gs S p = true) (hl : v.2.length ≤ SZ)
    (hK : ∀ su, SuOk C.gs su → K (.int (own C.gs g)) (putS j C { S with su := su } hp)) :
    Call P (n + 5) "Counter.combined" [sAV j, .int g] (putS j C S hp) K := by
  have q := T.getPl hv
  have GP := q.gk G
  have hsz := G.ok.sz
  have hgl : g < C.gs.length := G.ok.li.2
  refine call2 rfl ?_
  unfold b_Counter_combined
  walk_at "go"
  refine plan_hit (n := n + 3) hv (by exact Nat.le_trans (Nat.le_of_lt hgl) (Nat.le_trans (Nat.le_mul_of_pos_right _ (by decide)) hsz)) ?_
  refine g_a2 (by decide) ?_
  walk_at "go"
  rcases q.kind with ⟨e1, e2, e3⟩ | ⟨e1, e2, e3⟩
  · refine g_dpos e1 ?_
    walk_at "go"
    refine ⟨_, rfl, ?_⟩
    refine wpFor_ind (CoI j C S hp v.2) (fun l h hI => ?_) (fun Q y xs l h hQ hI => ?_) ⟨S.su, [], v.2, rfl, rfl, by walk_at "lk", by walk_at "lk", rfl, T.su⟩
    · obtain ⟨su, pr, rest, f1, f2, l1, l2, rfl, s1⟩ := hI
      have : rest = [] := by cases rest with | nil => rfl | cons _ _ => cases f1
      subst this
      rw [List.append_nil] at f2
      walk_at "go"
      rw [f2, ← e2]
      exact g_fin0 (hK su s1)
    · obtain ⟨su, pr, rest, f1, f2, l1, l2, rfl, s1⟩ := hI
      cases rest with
      | nil => cases f1
      | cons p rest =>
      simp only [List.map_cons, List.cons.injEq] at f1
      obtain ⟨rfl, rfl⟩ := f1
      have hp' : p ∈ v.2 := by rw [← f2]; exact List.mem_append_right _ List.mem_cons_self
      have hb : (pr.map (own C.gs)).foldl (· * ·) 1 ≤ 1024 := by
        rw [foldl_mul, Nat.one_mul]
        refine Nat.le_trans prod_le (Nat.pow_le_pow_right (n := 2) (j := 10) (by exact Nat.le_add_left _ _) ?_)
        have h1 : (SU C.gs g).length ≤ 10 := G.s10
        rw [← f2, List.map_append, List.sum_append] at e3
        omega
      refine ⟨_, rfl, ?_⟩
      walk_at "go"
      refine own_ok (T.setSu s1) (GP p hp') (hr p hp') fun su2 s2 => ?_
      have hb2 := (GP p hp').b63.2
      refine g_mul (small_of (by exact Int.natCast_nonneg _) (by exact Int.le_trans (Int.ofNat_le.mpr hb) (by decide))) (small_of (by exact Int.natCast_nonneg _) (by exact Int.le_trans (Int.ofNat_le.mpr hb2) (by decide))) ?_
      walk_at "go"
      refine ⟨_, HP.Sub.refl _, hQ _ _ ⟨su2, pr ++ [p], rest, rfl, by rw [List.append_assoc]; exact f2, by walk_at "lk", ?_, rfl, s2⟩⟩
      rw [List.map_append, List.foldl_append]
      exact lk_here
  · refine g_dneg (by rw [e1]; decide) ?_
    walk_at "go"
    refine support_ok G.ok T.su fun su1 s1 => ?_
    have h10 : (SU C.gs g).length ≤ 10 := G.s10
    walk_at "go"
    refine g_len ln_fd (by unfold SZ; show (SU C.gs g).length ≤ _; exact Nat.le_trans h10 (by decide)) ?_
    walk_at "go"
    refine ⟨_, rfl, by rw [List.length_map]; exact hl, ?_⟩
    refine wpComp_ind (CoJ j C S hp (fun p => AV.int ((own C.gs p * 2 ^ ((SU C.gs g).length - 1 - (SU C.gs p.natAbs).length) : Nat) : Int)) v.2) (fun acc h hI => ?_) (fun Q y xs acc h hQ hI => ?_) ⟨su1, [], v.2, rfl, rfl, rfl, rfl, s1⟩
    · obtain ⟨su, pr, rest, f1, f2, rfl, rfl, s2⟩ := hI
      have : rest = [] := by cases rest with | nil => rfl | cons _ _ => cases f1
      subst this
      rw [List.append_nil] at f2
      subst f2
      walk_at "go"
      refine g_sum al_fl (is := v.2.map (fun p => ((own C.gs p * 2 ^ ((SU C.gs g).length - 1 - (SU C.gs p.natAbs).length) : Nat) : Int))) ?_ ?_
      · rw [← intsOf_map, List.map_map]; rfl
      · rw [sum_cast, ← e2]
        walk_at "go"
        exact g_fin0 (hK su s2)
    · obtain ⟨su, pr, rest, f1, f2, rfl, rfl, s2⟩ := hI
      cases rest with
      | nil => cases f1
      | cons p rest =>
      simp only [List.map_cons, List.cons.injEq] at f1
      obtain ⟨rfl, rfl⟩ := f1
      have hp' : p ∈ v.2 := by rw [← f2]; exact List.mem_append_right _ List.mem_cons_self
      have hlt := q.slt p hp'
      have hb2 := (GP p hp').b63.2
      refine ⟨_, rfl, g_pos rfl ?_⟩
      walk_at "go"
      refine own_ok (T.setSu s2) (GP p hp') (hr p hp') fun su2 s2 => ?_
      walk_at "go"
      refine support_ok (GP p hp').ok s2 fun su3 s3 => ?_
      walk_at "go"
      refine g_len ln_fd (by unfold SZ; exact Nat.le_trans (Nat.le_of_lt hlt) (Nat.le_trans h10 (by decide))) ?_
      walk_at "go"
      refine g_shl (small_of (by exact Int.natCast_nonneg _) (by exact Int.le_trans (Int.ofNat_le.mpr hb2) (by decide))) (Int.sub_nonneg_of_le (Int.le_sub_one_of_lt (Int.ofNat_lt.mpr hlt))) (Int.le_trans (Int.sub_le_self _ (Int.natCast_nonneg _)) (Int.le_trans (Int.sub_le_self _ (by decide)) (Int.le_trans (Int.ofNat_le.mpr h10) (by decide)))) ?_
      refine hQ _ _ ⟨su3, pr ++ [p], rest, rfl, by rw [List.append_assoc]; exact f2, ?_, rfl, s3⟩
      rw [List.map_append]
      congr 1
      have e : ((((SU C.gs g).length : Int) - 1) - ((SU C.gs p.natAbs).length : Int)).toNat = (SU C.gs g).length - 1 - (SU C.gs p.natAbs).length := by
        rw [show ((SU C.gs g).length : Int) - 1 = (((SU C.gs g).length - 1 : Nat) : Int) from (Int.ofNat_sub (Nat.lt_of_le_of_lt (Nat.zero_le _) hlt)).symm]; exact Int.toNat_sub _ _
      show [AV.int ((own C.gs p : Int) * 2 ^ ((((SU C.gs g).length : Int) - 1) - ((SU C.gs p.natAbs).length : Int)).toNat)] = [AV.int _]
      rw [e, Int.natCast_mul, Int.natCast_pow]; rfl
end
end Mine
end
section
set_option Elab.async false
set_option maxRecDepth 100000
set_option linter.unusedVariables false
set_option linter.unusedSimpArgs false
namespace Mine

structure Later (C : Circ) (S : Tabs) (C' : Circ) (S' : Tabs) : Prop where
  pre : C.gs <+: C'.gs
  kn : ∀ k, inK S.kn k = true → inK S'.kn k = true
  pl : ∀ k u, aGet S.pl k = some u → aGet S'.pl k = some u
theorem Later.refl (C : Circ) (S : Tabs) : Later C S C S := ⟨List.prefix_refl _, fun _ h => h, fun _ _ h => h⟩
theorem Later.trans {C1 C2 C3 : Circ} {S1 S2 S3 : Tabs} (a : Later C1 S1 C2 S2) (b : Later C2 S2 C3 S3) : Later C1 S1 C3 S3 :=
  ⟨a.pre.trans b.pre, fun k h => b.kn k (a.kn k h), fun k u h => b.pl k u (a.pl k u h)⟩
theorem Later.ready {C C' : Circ} {S S' : Tabs} (e : Later C S C' S') {p : Int} (hl : lit C.gs p) (h : ready C.gs S p = true) : ready C'.gs S' p = true := by
  unfold Mine.ready at h ⊢
  rw [isAnd_stable e.pre hl.2]
  cases hk : inK S.kn (p.natAbs : Int) with
  | true => rw [e.kn _ hk]; rfl
  | false => rw [hk] at h; simp at h; simp [h]
theorem GK.mono {C C' : Circ} {p : Int} (G : GK C p) (w : WG C'.gs) (h : C.gs <+: C'.gs) (hz : C'.gs.length * 2 ≤ SZ) : GK C' p :=
  ⟨G.ok.mono w h hz, by rw [SU_stable h G.ok.li.2]; exact G.s10⟩
theorem ready_abs {gs : Gates} {S : Tabs} {p : Int} : ready gs S (p.natAbs : Int) = ready gs S p := by unfold ready; simp

section
variable {j : SI} {C : Circ} {S : Tabs} {hp : HP} {K : AV → HP → Prop} {n : Nat}

theorem GK.abs {p : Int} (G : GK C p) : GK C (p.natAbs : Int) := by
  obtain ⟨⟨a, b, c, d⟩, e⟩ := G
  exact ⟨⟨a, by unfold lit at b ⊢; simpa using b, c, by simpa using d⟩, by simpa using e⟩
theorem wt_abs {gs : Gates} {p : Int} : wt gs (p.natAbs : Int) = wt gs p := by unfold wt; simp
theorem wt_pos {p : Int} (w : WG C.gs) (hl : lit C.gs p) (h2 : 2 ≤ p.natAbs) : 1 ≤ wt C.gs p := by
  unfold wt
  have h := List.length_pos_iff.mpr (SU_ne w _ h2 hl.2)
  have := Nat.pow_le_pow_right (n := 2) (i := 1) (by decide) h
  exact Nat.sub_pos_of_lt this
theorem sum_filter_le {l : List Int} {f : Int → Nat} {q : Int → Bool} : ((l.filter q).map f).sum ≤ (l.map f).sum := by
  induction l with
  | nil => simp
  | cons a l ih =>
    rw [List.filter_cons]
    split <;> simp only [List.map_cons, List.sum_cons] <;> omega
theorem len_sum {l : List Int} {f : Int → Nat} (h : ∀ p ∈ l, 1 ≤ f p) : l.length ≤ (l.map f).sum := by
  induction l with
  | nil => simp
  | cons a l ih =>
    have h1 := h a List.mem_cons_self
    have h2 := ih fun p hp => h p (List.mem_cons_of_mem _ hp)
    simp only [List.map_cons, List.sum_cons, List.length_cons]; exact Nat.le_trans (Nat.le_of_eq (Nat.add_comm _ _)) (Nat.add_le_add h1 h2)

inductive CtL (j : SI) (p : Int) (b : Nat) (l : Loc) : Prop
  | mk (l1 : l "self" = some (sAV j)) (l2 : l "gate" = some (.int p)) (l3 : l "stack" = some (.ref b)) : CtL j p b l
noncomputable def oSt (st : List Int) : AObj := .list (st.map .int)
theorem k252 {k u : Nat} : k + 126 + 252 * u + 126 ≤ k + 252 * (u + 1) := by omega
theorem z64 {s f W : Nat} (hf : f ≤ 63) (hz : s + 64 * (W + 1) ≤ SZ) : s + 1 + f + 64 * W ≤ SZ := by
  refine Nat.le_trans (Nat.add_le_add_right (Nat.le_trans (Nat.le_of_eq (Nat.add_right_comm _ 1 _)) (Nat.succ_le_succ (Nat.add_le_add_left hf s))) _) ?_
  show s + 64 + 64 * W ≤ SZ
  rw [Nat.add_right_comm]; exact hz
theorem list_snoc {α : Type} {P : List α → Prop} (h0 : P []) (h1 : ∀ l a, P l → P (l ++ [a])) : ∀ l, P l := by
  intro l
  have : ∀ r : List α, P r.reverse := fun r => by
    induction r with
    | nil => exact h0
    | cons a r ih => rw [List.reverse_cons]; exact h1 _ _ ih
  have := this l.reverse
  rwa [List.reverse_reverse] at this
theorem seqGet_last {xs : List AV} {v : AV} : seqGet (xs ++ [v]) (-1) = some v := by
  unfold seqGet
  rw [if_neg (by decide), if_pos (by simp; omega)]
  have e : ((-1 : Int) + ((xs ++ [v]).length : Int)).toNat = xs.length := by simp; exact Int.toNat_sub _ 1
  rw [e]; simp

theorem count_ok {p : Int} {k : Nat} (w : WC C) (T : TOk C.gs S) (G : GK C p) (R : Room C (k + 252 * 1023)) (hN : (SU C.gs p.natAbs).length ≤ j.ins.length) (hN2 : j.ins.length ≤ 50)
    (hK : ∀ C' S', WC C' → TOk C'.gs S' → C.gs <+: C'.gs → Room C' k → K (.int (own C.gs p * 2 ^ (j.ins.length - (SU C.gs p.natAbs).length) : Nat)) (putS j C' S' hp)) :
    Call P (n + 6) "Counter.count" [sAV j, .int p] (putS j C S hp) K := by
  refine call2 rfl ?_
  unfold b_Counter_count
  walk_at "go"
  intro b hb
  obtain ⟨fb, hb⟩ := putS_fresh hb
  rw [putS_comm fb]
  have gb : ∀ C S st, putS j C S (hp.set b (oSt st)) b = some (.list (st.map .int)) := fun C S st => by rw [putS_get fb, HP.set_self]; rfl
  have sb : ∀ C S st st', (putS j C S (hp.set b (oSt st))).set b (.list (st'.map .int)) = putS j C S (hp.set b (oSt st')) := fun C S st st' => by rw [putS_comm fb, set_set]; rfl
  intro Q hQ
  -- one turn of the loop
  have turn : ∀ (C : Circ) (S : Tabs) (st : List Int) (g : Nat) (l : Loc) (k : Nat), WC C → TOk C.gs S → GK C g → Room C 0 → (ready C.gs S g = false → Room C (k + 126)) → st.length + 64 ≤ SZ → CtL j p b l →
      (ready C.gs S g = true → ∀ l', CtL j p b l' → Q l' (putS j C S (hp.set b (oSt st)))) →
      (ready C.gs S g = false → ∀ C' S' v l', CtL j p b l' → WC C' → TOk C'.gs S' → Later C S C' S' → Room C' k → S'.kn = S.kn → aGet S'.pl (g : Int) = some v →
        if (v.2.filter fun p => !ready C'.gs S' p) ≠ [] then Q l' (putS j C' S' (hp.set b (oSt (st ++ [(g : Int)] ++ (v.2.filter fun p => !ready C'.gs S' p).map fun p => (p.natAbs : Int)))))
        else ∀ S'', TOk C'.gs S'' → Later C' S' C' S'' → ready C'.gs S'' g = true → Q l' (putS j C' S'' (hp.set b (oSt (st ++ [(g : Int)]))))) → Q l (putS j C S (hp.set b (oSt (st ++ [(g : Int)])))) := by
    intro C S st g l k w T G R0 R hz ⟨l1, l2, l3⟩ hA hB
    have hsz := R0.sz
    have hgl := G.ok.li.2
    refine hQ _ _ ?_
    have hml : ((st ++ [(g : Int)]).map AV.int).length = st.length + 1 := by rw [List.length_map, List.length_append]; rfl
    have hms : (st ++ [(g : Int)]).map AV.int = st.map AV.int ++ [.int g] := List.map_append
    walk_at "go"
    refine g_len (ln_r (gb _ _ _)) (by rw [hml]; exact Nat.lt_of_le_of_lt (Nat.le_add_right _ _) hz) ?_
    walk_at "go"
    refine g_dpos (by rw [hml]; exact Int.ofNat_lt.mpr (Nat.succ_pos _)) ?_
    walk_at "go"
    refine g_gi (v := .int g) ?_ (by unfold small; decide) ?_
    · rw [ix_rl (gb _ _ _), hms]; exact seqGet_last
    walk_at "go"
    refine is_ready_ok G.ok.li (by exact Nat.le_of_lt hsz.2.1) ?_
    walk_at "go"
    cases hr : ready C.gs S (g : Int) with
    | true =>
      refine g_pos rfl ?_
      walk_at "go"
      refine g_tpop (gb _ _ _) ?_
      walk_at "go"
      refine g_pop (v := .int g) (xs := st.map .int) (by rw [gb, hms]) (by rw [List.length_map]; exact Nat.le_trans (Nat.le_add_right _ _) hz) ?_
      rw [sb]
      walk_at "go"
      exact ⟨_, HP.Sub.refl _, hA hr _ ⟨by walk_at "lk", by walk_at "lk", by walk_at "lk"⟩⟩
    | false =>
      obtain ⟨ps, hg⟩ := isAnd_get (gs := C.gs) (i := g) (by unfold ready at hr; simp at hr; exact hr.2)
      have h1 : 1 ≤ g := G.ok.li.1
      refine g_nega rfl ?_
      walk_at "go"
      refine plan_ok w T G.ok h1 hg (R hr) fun C' S' v hpre w' T' R' hkn hpl hv => ?_
      have hsz' := R'.sz
      have G' := G.mono w'.wg hpre hsz'.1
      have q := T'.getPl hv
      have GP := q.gk G'
      have h63 : (BE C'.gs g).length ≤ 63 := G'.ok.b63
      have hvl := q.ln
      refine g_gi (v := .fl (v.2.map .int)) rfl (by unfold small; decide) ?_
      refine ⟨_, rfl, by rw [List.length_map]; unfold SZ; exact Nat.le_trans hvl (Nat.le_trans h63 (by decide)), ?_⟩
      refine wpComp_filt (f := fun p : Int => AV.int p.natAbs) (q := fun p => !ready C'.gs S' p) (fun x hx => ⟨_, rfl, fun K hK => ?_, fun K hK => ?_⟩) ?_
      · walk_at "go"
        refine is_ready_ok (GP x hx).ok.li (by exact Nat.le_of_lt hsz'.2.1) ?_
        walk_at "go"
        exact hK
      · walk_at "go"; exact hK
      · have hE : Later C S C' S' := ⟨hpre, fun k h => by rw [hkn]; exact h, hpl⟩
        have hlast := hB hr C' S' v
        have hfl := List.length_filter_le (fun p => !ready C'.gs S' p) v.2
        have lo' : ∀ z u, CtL j p b ((l.set "here" z).set "lacking" u) := fun z u => ⟨by walk_at "lk", by walk_at "lk", by walk_at "lk"⟩
        walk_at "go"
        refine g_len ln_fl (by rw [List.nil_append, List.length_map]; unfold SZ; exact Nat.le_trans hfl (Nat.le_trans hvl (Nat.le_trans h63 (by decide)))) ?_
        rw [List.nil_append, List.length_map]
        walk_at "go"
        by_cases hne : (v.2.filter fun p => !ready C'.gs S' p) ≠ []
        · refine g_dpos (by have := List.length_pos_iff.mpr hne; exact Int.ofNat_lt.mpr this) ?_
          have := hlast _ (lo' (.int g) (.fl ((v.2.filter fun p => !ready C'.gs S' p).map fun p => AV.int p.natAbs))) w' T' hE R' hkn hv
          rw [if_pos hne] at this
          walk_at "go"
          refine g_textend (gb _ _ _) ?_
          walk_at "go"
          refine g_extend (gb _ _ _) (by rw [hml, List.length_map]; exact Nat.le_trans (Nat.le_of_eq (Nat.add_right_comm _ 1 _)) (Nat.le_trans (Nat.succ_le_succ (Nat.add_le_add_left (Nat.le_trans hfl (Nat.le_trans hvl h63)) _)) hz)) ?_
          have e : (st ++ [(g : Int)]).map AV.int ++ (v.2.filter fun p => !ready C'.gs S' p).map (fun p => AV.int (p.natAbs : Int)) = (st ++ [(g : Int)] ++ (v.2.filter fun p => !ready C'.gs S' p).map fun p => (p.natAbs : Int)).map .int := by simp
          rw [e, sb]
          walk_at "go"
          exact ⟨_, HP.Sub.refl _, this⟩
        · refine g_dneg (by rw [show (v.2.filter fun p => !ready C'.gs S' p) = [] from Classical.not_not.mp hne]; decide) ?_
          have hall : ∀ p ∈ v.2, ready C'.gs S' p = true := fun p hp => by
            cases h : ready C'.gs S' p with
            | true => rfl
            | false => exact absurd (List.ne_nil_of_mem (List.mem_filter.mpr ⟨hp, by rw [h]; rfl⟩)) hne
          have := hlast _ (lo' (.int g) (.fl ((v.2.filter fun p => !ready C'.gs S' p).map fun p => AV.int p.natAbs))) w' T' hE R' hkn hv
          rw [if_neg hne] at this
          walk_at "go"
          refine combined_ok w' T' G' hv hall (by unfold SZ; exact Nat.le_trans hvl (Nat.le_trans h63 (by decide))) fun su s => ?_
          have hnk : (g : Int) ∉ S'.kn.map (·.1) := by
            rw [hkn]
            unfold ready at hr
            simp at hr
            exact inK_false.mp hr.1
          have ea : aPut (knL S'.kn) (g : Int) (.int (own C'.gs g : Int)) = knL (S'.kn ++ [((g : Int), (own C'.gs g : Int))]) := by
            rw [knL_put, aPut_new (notin_keys hnk)]
          walk_at "go"
          refine g_setI putS1 (by unfold knL; rw [List.length_map]; have := T'.knLen; show S'.kn.length ≤ SZ; exact Nat.le_trans this (Nat.le_trans (Nat.le_mul_of_pos_right _ (by decide)) hsz'.1)) ?_
          dsimp only
          rw [ea, putS_set1]
          walk_at "go"
          refine ⟨_, HP.Sub.refl _, this _ ((T'.setSu s).putKn hnk h1 G'.ok.li.2) ⟨List.prefix_refl _, fun k hk => ?_, fun _ _ h => h⟩ ?_⟩
          · rw [inK_true] at hk ⊢
            dsimp only
            rw [List.map_append]; exact List.mem_append_left _ hk
          · unfold ready
            rw [inK_t]
            · rfl
            · simp
  -- a gate on the stack is worked off
  have run : ∀ (W : Nat) (C : Circ) (S : Tabs) (st : List Int) (g : Nat) (l : Loc) (k : Nat), wt C.gs g = W → WC C → TOk C.gs S → GK C g → Room C (k + 252 * wt C.gs g) → st.length + 64 * (wt C.gs g + 1) ≤ SZ → CtL j p b l →
      (∀ C' S' l', CtL j p b l' → WC C' → TOk C'.gs S' → Later C S C' S' → Room C' k → ready C'.gs S' g = true → Q l' (putS j C' S' (hp.set b (oSt st)))) →
      Q l (putS j C S (hp.set b (oSt (st ++ [(g : Int)])))) := by
    intro W
    induction W using Nat.strongRecOn with
    | ind W ih =>
      -- a row of them
      have runL : ∀ (M : List Int) (C : Circ) (S : Tabs) (st : List Int) (l : Loc) (k : Nat), WC C → TOk C.gs S → (∀ p ∈ M, GK C p ∧ wt C.gs p < W) → Room C (k + 252 * (M.map (wt C.gs)).sum) → st.length + M.length + 64 * W ≤ SZ → CtL j p b l →
          (∀ C' S' l', CtL j p b l' → WC C' → TOk C'.gs S' → Later C S C' S' → Room C' k → (∀ p ∈ M, ready C'.gs S' p = true) → Q l' (putS j C' S' (hp.set b (oSt st)))) →
          Q l (putS j C S (hp.set b (oSt (st ++ M.map fun p => (p.natAbs : Int))))) := by
        intro M
        induction M using list_snoc with
        | h0 =>
          intro C S st l k w T G R hz lo hA
          simp only [List.map_nil, List.append_nil]
          exact hA C S l lo w T (Later.refl C S) (R.less (Nat.le_add_right _ _)) (fun p hp => by cases hp)
        | h1 M p ihM =>
          intro C S st l k w T G R hz lo hA
          have hp := G p (by simp)
          have e : (st ++ (M ++ [p]).map fun p => (p.natAbs : Int)) = (st ++ M.map fun p => (p.natAbs : Int)) ++ [(p.natAbs : Int)] := by simp
          rw [e]
          simp only [List.map_append, List.map_cons, List.map_nil, List.sum_append, List.sum_cons, List.sum_nil, List.length_append, List.length_cons, List.length_nil] at R hz
          have hw := wt_abs (gs := C.gs) (p := p)
          refine ih (wt C.gs p) hp.2 C S _ p.natAbs l (k + 252 * (M.map (wt C.gs)).sum) hw w T hp.1.abs (R.less (by rw [hw, Nat.add_assoc, ← Nat.mul_add]; exact Nat.le_refl _)) (by rw [hw, List.length_append, List.length_map]; exact Nat.le_trans (Nat.add_le_add (Nat.le_succ _) (Nat.mul_le_mul_left 64 hp.2)) hz) lo fun C1 S1 l1 lo1 w1 T1 E1 R1 r1 => ?_
          have hsz1 := R1.sz
          have hGs : ∀ q ∈ M, lit C.gs q := fun q hq => (G q (by simp [hq])).1.ok.li
          have ewt : M.map (wt C1.gs) = M.map (wt C.gs) := map_congr' fun q hq => wt_stable E1.pre (hGs q hq)
          refine ihM C1 S1 st l1 k w1 T1 (fun q hq => ⟨(G q (by simp [hq])).1.mono w1.wg E1.pre hsz1.1, by rw [wt_stable E1.pre (hGs q hq)]; exact (G q (by simp [hq])).2⟩) (by rw [ewt]; exact R1) (Nat.le_trans (Nat.add_le_add_right (Nat.le_succ _) _) hz) lo1 fun C2 S2 l2 lo2 w2 T2 E2 R2 r2 => ?_
          refine hA C2 S2 l2 lo2 w2 T2 (E1.trans E2) R2 fun q hq => ?_
          rcases List.mem_append.mp hq with z | z
          · exact r2 q z
          · simp at z
            subst z
            exact E2.ready (hp.1.ok.li.mono E1.pre) (by rw [← ready_abs]; exact r1)
      intro C S st g l k hW w T G R hz lo hA
      have hz64 : st.length + 64 ≤ SZ := Nat.le_trans (Nat.add_le_add_left (Nat.mul_le_mul_left 64 (Nat.le_add_left 1 _)) _) hz
      have fin : ∀ (C' : Circ) (S' : Tabs) (l' : Loc), CtL j p b l' → WC C' → TOk C'.gs S' → Later C S C' S' → Room C' k → ready C'.gs S' g = true → Q l' (putS j C' S' (hp.set b (oSt (st ++ [(g : Int)])))) := fun C' S' l' lo' w' T' E' R' r' =>
        turn C' S' st g l' k w' T' (G.mono w'.wg E'.pre R'.sz.1) (R'.less (Nat.zero_le _)) (fun h => by rw [r'] at h; cases h) hz64 lo' (fun _ l2 lo2 => hA C' S' l2 lo2 w' T' E' R' r') (fun h => by rw [r'] at h; cases h)
      cases hr : ready C.gs S (g : Int) with
      | true => exact fin C S l lo w T (Later.refl C S) (R.less (Nat.le_add_right _ _)) hr
      | false =>
        have hand : isAnd C.gs g = true := by unfold ready at hr; simp at hr; exact hr.2
        obtain ⟨ps, hg⟩ := isAnd_get hand
        have hw1 : 1 ≤ wt C.gs (g : Int) := wt_pos w.wg G.ok.li (by
          have h1 : 1 ≤ g := G.ok.li.1
          have : g ≠ 1 := fun e => by subst e; rw [w.wg.g1] at hg; simp at hg
          show 2 ≤ g; exact Nat.lt_of_le_of_ne h1 (Ne.symm this))
        refine turn C S st g l (k + 126 + 252 * (wt C.gs (g : Int) - 1)) w T G (R.less (Nat.zero_le _)) (fun _ => R.less (by have := k252 (k := k) (u := wt C.gs (g : Int) - 1); rwa [Nat.sub_add_cancel hw1] at this)) hz64 lo (fun h => by rw [hr] at h; cases h) fun _ C1 S1 v l1 lo1 w1 T1 E1 R1 hkn hv => ?_
        have q := T1.getPl hv
        have hsz1 := R1.sz
        have G1 := G.mono w1.wg E1.pre hsz1.1
        have GP := q.gk G1
        have hwg : wt C1.gs (g : Int) = W := by rw [wt_stable E1.pre G.ok.li]; exact hW
        have hwl := q.wl
        rw [hwg] at hwl
        split
        · rename_i hne
          have hfs := sum_filter_le (l := v.2) (f := wt C1.gs) (q := fun p => !ready C1.gs S1 p)
          have hfl := List.length_filter_le (fun p => !ready C1.gs S1 p) v.2
          have h63 : (BE C1.gs g).length ≤ 63 := G1.ok.b63
          have hvl := q.ln
          have hsum : ((v.2.filter fun p => !ready C1.gs S1 p).map (wt C1.gs)).sum ≤ wt C.gs (g : Int) - 1 := by rw [hW]; exact Nat.le_sub_of_add_le (Nat.le_trans (Nat.succ_le_succ hfs) hwl)
          refine runL (v.2.filter fun p => !ready C1.gs S1 p) C1 S1 (st ++ [(g : Int)]) l1 (k + 126) w1 T1 (fun p hp => ?_) (R1.less (Nat.add_le_add_left (Nat.mul_le_mul_left 252 hsum) _)) (by rw [List.length_append, List.length_singleton]; exact z64 (Nat.le_trans hfl (Nat.le_trans hvl h63)) (hW ▸ hz)) lo1 fun C2 S2 l2 lo2 w2 T2 E2 R2 r2 => ?_
          · have hp' := (List.mem_filter.mp hp).1
            have := sum_mem_le (f := wt C1.gs) hp'
            exact ⟨GP p hp', by exact Nat.lt_of_le_of_lt this hwl⟩
          · have E02 := E1.trans E2
            have all2 : ∀ p ∈ v.2, ready C2.gs S2 p = true := fun p hp => by
              cases h : ready C1.gs S1 p with
              | true => exact E2.ready (q.li p hp) h
              | false => exact r2 p (List.mem_filter.mpr ⟨hp, by simp [h]⟩)
            refine turn C2 S2 st g l2 k w2 T2 (G.mono w2.wg E02.pre R2.sz.1) (R2.less (Nat.zero_le _)) (fun _ => R2) hz64 lo2 (fun h l3 lo3 => hA C2 S2 l3 lo3 w2 T2 E02 (R2.less (Nat.le_add_right _ _)) h) fun _ C3 S3 v3 l3 lo3 w3 T3 E3 R3 hkn3 hv3 => ?_
            have ev : v3 = v := by
              have := E3.pl _ _ (E2.pl _ _ hv)
              rw [hv3] at this
              exact Option.some.inj this
            subst ev
            have hemp : (v3.2.filter fun p => !ready C3.gs S3 p) = [] := by
              rw [List.filter_eq_nil_iff]
              intro p hp
              rw [E3.ready ((q.li p hp).mono E2.pre) (all2 p hp)]; simp
            rw [if_neg (fun h => h hemp)]
            exact fun S4 T4 E4 r4 => fin C3 S4 l3 lo3 w3 T4 ((E02.trans E3).trans E4) R3 r4
        · exact fun S4 T4 E4 r4 => fin C1 S4 l1 lo1 w1 T4 (E1.trans E4) (R1.less (Nat.le_trans (Nat.le_add_right _ _) (Nat.le_add_right _ _))) r4
  have hwt : wt C.gs (p.natAbs : Int) ≤ 1023 := by
    rw [wt_abs]
    unfold wt
    have := Nat.pow_le_pow_right (n := 2) (i := _) (j := 10) (by decide) G.s10
    exact Nat.sub_le_of_le_add this
  refine run _ C S [] p.natAbs _ k rfl w T G.abs (R.less (Nat.add_le_add_left (Nat.mul_le_mul_left 252 hwt) k)) (by rw [List.length_nil, Nat.zero_add]; exact Nat.le_trans (Nat.mul_le_mul_left 64 (Nat.succ_le_succ hwt)) (by decide)) ⟨by walk_at "lk", by walk_at "lk", by walk_at "lk"⟩ fun C' S' l' lo' w' T' E' R' r' => ?_
  obtain ⟨l1, l2, l3⟩ := lo'
  refine hQ _ _ ?_
  have hsz := R'.sz
  have G' := G.mono w'.wg E'.pre hsz.1
  have hl := G.ok.li
  have hS : SU C'.gs p.natAbs = SU C.gs p.natAbs := SU_stable E'.pre hl.2
  walk_at "go"
  refine g_len (q := 0) (ln_r (gb _ _ _)) (Nat.zero_le _) ?_
  walk_at "go"
  refine g_dneg (by decide) ?_
  walk_at "go"
  refine own_ok T' G' (by rw [← ready_abs]; exact r') fun su s => ?_
  walk_at "go"
  refine g_len (q := j.ins.length) (by rw [← List.length_map (f := AV.int)]; exact ln_tp) (by unfold SZ; exact Nat.le_trans hN2 (by decide)) ?_
  walk_at "go"
  refine support_ok G'.ok s fun su2 s2 => ?_
  walk_at "go"
  have hb2 := G'.b63
  rw [hS] at hb2 ⊢
  refine g_len ln_fd (by unfold SZ; exact Nat.le_trans hb2.1 (Nat.le_add_left _ _)) ?_
  walk_at "go"
  have e : ((j.ins.length : Int) - ((SU C.gs p.natAbs).length : Int)).toNat = j.ins.length - (SU C.gs p.natAbs).length := by exact Int.toNat_sub _ _
  refine g_shl (small_of (Int.natCast_nonneg _) (by exact Int.le_trans (Int.ofNat_le.mpr hb2.2) (by decide))) (Int.sub_nonneg_of_le (Int.ofNat_le.mpr hN)) (Int.le_trans (Int.sub_le_self _ (Int.natCast_nonneg _)) (Int.le_trans (Int.ofNat_le.mpr hN2) (by decide))) ?_
  walk_at "go"
  have := hK C' { S' with su := su2 } w' (T'.setSu s2) E'.pre R'
  rw [own_stable E'.pre hl, e]
  rw [Int.natCast_mul, Int.natCast_pow] at this
  exact g_fin (putS_new hb) this
end
end Mine
end
section
set_option Elab.async false
set_option maxRecDepth 100000
set_option linter.unusedVariables false
set_option linter.unusedSimpArgs false
namespace Mine

/-- the circuit grew by m gates at most, none of them an input -/
structure Grow (C C' : Circ) (m : Nat) : Prop where
  wc : WC C'
  pre : C.gs <+: C'.gs
  len : C'.gs.length ≤ C.gs.length + m
  kl : C'.known.length ≤ C'.gs.length
  noin : ∀ (n : Nat) ps, C'.gs[n]? = some ("input", ps) → n < C.gs.length

section
variable {C C' C1 C2 : Circ} {a b c r way : Int} {m m1 m2 : Nat} {gs : List Int}

theorem not_lt2 {z : Int} (h0 : 0 ≤ z) (e0 : ¬ z = 0) (e1 : ¬ z = 1) : ¬ z < 2 := by omega
theorem Grow.refl (w : WC C) (k : C.known.length ≤ C.gs.length) : Grow C C 0 := ⟨w, List.prefix_refl _, Nat.le_refl _, k, fun n ps h => get_lt h⟩
theorem Grow.trans (x : Grow C C1 m1) (y : Grow C1 C2 m2) : Grow C C2 (m1 + m2) :=
  ⟨y.wc, x.pre.trans y.pre, by have := x.len; have := y.len; exact Nat.le_trans this (Nat.le_trans (Nat.add_le_add_right ‹C1.gs.length ≤ C.gs.length + m1› _) (Nat.le_of_eq (Nat.add_assoc _ _ _))), y.kl, fun n ps h => by
    have h1 := y.noin n ps h
    have h2 : C1.gs[n]? = some ("input", ps) := by
      obtain ⟨t, e⟩ := y.pre
      rw [← e, List.getElem?_append_left h1] at h; exact h
    exact x.noin n ps h2⟩
theorem Grow.less (x : Grow C C1 m1) (h : m1 ≤ m) : Grow C C1 m := ⟨x.wc, x.pre, by have := x.len; exact Nat.le_trans this (Nat.add_le_add_left h _), x.kl, x.noin⟩

theorem allOf_grow (w : WC C) (k : C.known.length ≤ C.gs.length) (hl : ∀ g ∈ gs, lit C.gs g) : Grow C (allOf C gs).1 1 := by
  have AO := allOf_ok w hl
  refine ⟨AO.wc, AO.pre, ?_, ?_, ?_⟩
  · unfold allOf
    split
    · simp
    · split
      · simp
      · split
        · simp
        · simp
  · unfold allOf
    split
    · exact k
    · split
      · exact k
      · split
        · exact k
        · simp; exact k
  · intro n ps h
    unfold allOf at h
    split at h
    · exact get_lt h
    · split at h
      · exact get_lt h
      · split at h
        · exact get_lt h
        · dsimp only at h
          by_cases q : n < C.gs.length
          · exact q
          · have := get_lt h
            simp at this
            have e : n = C.gs.length := by exact Nat.le_antisymm (Nat.le_of_lt_succ this) (Nat.not_lt.mp q)
            subst e
            simp at h

structure JoinOk (C : Circ) (m : Nat) (f : (Int → Bool) → Bool) (C' : Circ) (r : Int) : Prop where
  grow : Grow C C' m
  li : lit C'.gs r
  sem : ∀ ρ, Lit C'.gs ρ r = f ρ

theorem all2 {f : Int → Bool} : [a, b].all f = (f a && f b) := by simp
theorem lits2 (ha : lit C.gs a) (hb : lit C.gs b) : ∀ g ∈ [a, b], lit C.gs g := fun g hg => by
  simp at hg; rcases hg with rfl | rfl
  · exact ha
  · exact hb

theorem both_sem (w : WC C) (k : C.known.length ≤ C.gs.length) (ha : lit C.gs a) (hb : lit C.gs b) : JoinOk C 1 (fun ρ => Lit C.gs ρ a && Lit C.gs ρ b) (allOf C [a, b]).1 (allOf C [a, b]).2 := by
  have AO := allOf_ok w (lits2 ha hb)
  exact ⟨allOf_grow w k (lits2 ha hb), AO.li, fun ρ => by rw [AO.sem, all2]⟩
theorem either_sem (w : WC C) (k : C.known.length ≤ C.gs.length) (ha : lit C.gs a) (hb : lit C.gs b) : JoinOk C 1 (fun ρ => Lit C.gs ρ a || Lit C.gs ρ b) (eitherF C a b).1 (eitherF C a b).2 := by
  have J := both_sem w k ha.neg hb.neg
  refine ⟨J.grow, J.li.neg, fun ρ => ?_⟩
  refine (Lit_neg J.li).trans ?_
  rw [J.sem, Lit_neg ha, Lit_neg hb]
  cases Lit C.gs ρ a <;> cases Lit C.gs ρ b <;> rfl
theorem implies_sem (w : WC C) (k : C.known.length ≤ C.gs.length) (ha : lit C.gs a) (hb : lit C.gs b) : JoinOk C 1 (fun ρ => !Lit C.gs ρ a || Lit C.gs ρ b) (impliesF C a b).1 (impliesF C a b).2 := by
  have J := both_sem w k ha hb.neg
  refine ⟨J.grow, J.li.neg, fun ρ => ?_⟩
  refine (Lit_neg J.li).trans ?_
  rw [J.sem, Lit_neg hb]
  cases Lit C.gs ρ a <;> cases Lit C.gs ρ b <;> rfl
theorem iff_sem (w : WC C) (k : C.known.length ≤ C.gs.length) (ha : lit C.gs a) (hb : lit C.gs b) : JoinOk C 3 (fun ρ => Lit C.gs ρ a == Lit C.gs ρ b) (iffF C a b).1 (iffF C a b).2 := by
  have J1 := implies_sem w k ha hb
  have J2 := implies_sem J1.grow.wc J1.grow.kl (hb.mono J1.grow.pre) (ha.mono J1.grow.pre)
  have J3 := both_sem J2.grow.wc J2.grow.kl (J1.li.mono J2.grow.pre) J2.li
  refine ⟨(J1.grow.trans J2.grow).trans J3.grow, J3.li, fun ρ => ?_⟩
  refine (J3.sem ρ).trans ?_
  rw [Lit_stable J2.grow.pre J1.li, J1.sem, J2.sem, Lit_stable J1.grow.pre ha, Lit_stable J1.grow.pre hb]
  cases Lit C.gs ρ a <;> cases Lit C.gs ρ b <;> rfl
theorem unlike_sem (w : WC C) (k : C.known.length ≤ C.gs.length) (ha : lit C.gs a) (hb : lit C.gs b) : JoinOk C 3 (fun ρ => !(Lit C.gs ρ a == Lit C.gs ρ b)) (unlikeF C a b).1 (unlikeF C a b).2 := by
  have J := iff_sem w k ha hb
  refine ⟨J.grow, J.li.neg, fun ρ => ?_⟩
  refine (Lit_neg J.li).trans ?_
  rw [J.sem]
theorem choose_sem (w : WC C) (k : C.known.length ≤ C.gs.length) (hc : lit C.gs c) (ha : lit C.gs a) (hb : lit C.gs b) : JoinOk C 3 (fun ρ => if Lit C.gs ρ c then Lit C.gs ρ a else Lit C.gs ρ b) (chooseF C c a b).1 (chooseF C c a b).2 := by
  have J1 := implies_sem w k hc ha
  have J2 := implies_sem J1.grow.wc J1.grow.kl (hc.mono J1.grow.pre).neg (hb.mono J1.grow.pre)
  have J3 := both_sem J2.grow.wc J2.grow.kl (J1.li.mono J2.grow.pre) J2.li
  refine ⟨(J1.grow.trans J2.grow).trans J3.grow, J3.li, fun ρ => ?_⟩
  refine (J3.sem ρ).trans ?_
  rw [Lit_stable J2.grow.pre J1.li, J1.sem, J2.sem, Lit_neg (hc.mono J1.grow.pre), Lit_stable J1.grow.pre hc, Lit_stable J1.grow.pre hb]
  cases Lit C.gs ρ c <;> cases Lit C.gs ρ a <;> cases Lit C.gs ρ b <;> rfl
theorem joined_sem (w : WC C) (k : C.known.length ≤ C.gs.length) (ha : lit C.gs a) (hb : lit C.gs b) (h0 : 0 ≤ way) : JoinOk C 3 (fun ρ => wayF way (Lit C.gs ρ a) (Lit C.gs ρ b)) (joinedF C a b way).1 (joinedF C a b way).2 := by
  unfold joinedF
  by_cases e0 : way = 0
  · rw [if_pos e0]
    have J := both_sem w k ha hb
    refine ⟨J.grow.less (by exact Nat.le_add_left _ _), J.li, fun ρ => ?_⟩
    rw [J.sem]; subst e0; rfl
  · rw [if_neg e0]
    by_cases e1 : way = 1
    · rw [if_pos e1]
      have J := either_sem w k ha hb
      refine ⟨J.grow.less (by omega), J.li, fun ρ => ?_⟩
      rw [J.sem]; subst e1; rfl
    · rw [if_neg e1]
      by_cases e2 : way = 2
      · rw [if_pos e2]
        have J := iff_sem w k ha hb
        refine ⟨J.grow, J.li, fun ρ => ?_⟩
        rw [J.sem]; subst e2
        cases Lit C.gs ρ a <;> cases Lit C.gs ρ b <;> rfl
      · rw [if_neg e2]
        have J := unlike_sem w k ha hb
        refine ⟨J.grow, J.li, fun ρ => ?_⟩
        rw [J.sem]
        unfold wayF
        rw [if_neg (not_lt2 (by assumption) e0 e1), decide_eq_false e2]
        cases Lit C.gs ρ a <;> cases Lit C.gs ρ b <;> rfl
end

/-- the row r of the table over xs -/
noncomputable def asgL : List Int → Nat → Int → Bool
  | [], _ => fun _ => false
  | x :: xs, r => upd (asgL xs (r / 2)) x (r % 2 == 1)
theorem count_range2 {f : Nat → Bool} : ∀ {m : Nat}, ((List.range (2 * m)).map f).count true = ((List.range m).map fun q => f (2 * q)).count true + ((List.range m).map fun q => f (2 * q + 1)).count true
  | 0 => rfl
  | m + 1 => by
    rw [show 2 * (m + 1) = 2 * m + 1 + 1 by exact rfl, List.range_succ, List.range_succ, List.range_succ]
    simp only [List.map_append, List.count_append, List.map_cons, List.map_nil]
    rw [count_range2 (m := m)]
    omega
theorem cnt_rows : ∀ {xs : List Int} {f : (Int → Bool) → Bool}, cnt xs f = ((List.range (2 ^ xs.length)).map fun r => f (asgL xs r)).count true
  | [], f => by
    simp only [cnt, asgL, List.length_nil, Nat.pow_zero]
    by_cases h : f (fun _ => false) = true <;> simp [h]
  | x :: xs, f => by
    have e0 : ∀ q, asgL (x :: xs) (2 * q) = upd (asgL xs q) x false := fun q => by
      simp only [asgL]
      rw [show 2 * q / 2 = q by omega, show 2 * q % 2 = 0 by omega]; rfl
    have e1 : ∀ q, asgL (x :: xs) (2 * q + 1) = upd (asgL xs q) x true := fun q => by
      simp only [asgL]
      rw [show (2 * q + 1) / 2 = q by exact Nat.mul_add_div (by decide) _ _, show (2 * q + 1) % 2 = 1 by omega]; rfl
    rw [List.length_cons, Nat.pow_succ', count_range2]
    simp only [e0, e1, cnt]
    rw [cnt_rows, cnt_rows]
theorem asgL_get : ∀ {xs : List Int} {k : Nat} {x : Int} {r : Nat}, xs.Nodup → xs[k]? = some x → asgL xs r x = (r / 2 ^ k % 2 == 1)
  | [], k, x, r, _, h => by simp at h
  | y :: xs, 0, x, r, hn, h => by
    simp at h; subst h
    simp only [asgL, upd_self, Nat.pow_zero, Nat.div_one]
  | y :: xs, k + 1, x, r, hn, h => by
    rw [List.getElem?_cons_succ] at h
    have hn' := List.nodup_cons.mp hn
    have hx : x ∈ xs := List.mem_of_getElem? h
    have hne : x ≠ y := fun e => hn'.1 (e ▸ hx)
    simp only [asgL]
    rw [upd_ne hne, asgL_get hn'.2 h, Nat.div_div_eq_div_mul, Nat.pow_succ']

/-- the numbers of a joined pair -/
noncomputable def rowsF (way : Int) (a n b m : Int) : Int :=
  if way = 0 then a * b else if way = 1 then n * m - (n - a) * (m - b) else if way = 2 then a * b + (n - a) * (m - b) else n * m - (a * b + (n - a) * (m - b))
theorem rowsF_ok {f g : (Int → Bool) → Bool} {D1 D2 : List Int} {way : Int} (h1 : Dep f D1) (h2 : Dep g D2) (hd : ∀ x ∈ D1, x ∉ D2) (h0 : 0 ≤ way) :
    ((cnt (D1 ++ D2) (fun ρ => wayF way (f ρ) (g ρ)) : Nat) : Int) = rowsF way (cnt D1 f) ((2 ^ D1.length : Nat) : Int) (cnt D2 g) ((2 ^ D2.length : Nat) : Int) := by
  have c1 := cnt_and h1 h2 hd
  have c2 := cnt_and h1.not h2.not hd
  have n1 := cnt_not (xs := D1) (f := f)
  have n2 := cnt_not (xs := D2) (f := g)
  have p : 2 ^ (D1 ++ D2).length = 2 ^ D1.length * 2 ^ D2.length := by rw [List.length_append, Nat.pow_add]
  have i1 : ((2 ^ D1.length : Nat) : Int) - cnt D1 f = cnt D1 (fun ρ => !f ρ) := by omega
  have i2 : ((2 ^ D2.length : Nat) : Int) - cnt D2 g = cnt D2 (fun ρ => !g ρ) := by omega
  have alike : cnt (D1 ++ D2) (fun ρ => f ρ == g ρ) = cnt D1 f * cnt D2 g + cnt D1 (fun ρ => !f ρ) * cnt D2 (fun ρ => !g ρ) := by
    rw [← c1, ← c2, ← cnt_or]
    · exact cnt_congr fun ρ => by cases f ρ <;> cases g ρ <;> rfl
    · intro ρ; cases f ρ <;> cases g ρ <;> rfl
  unfold rowsF
  by_cases e0 : way = 0
  · rw [if_pos e0, ← Int.natCast_mul, ← c1]
    subst e0
    congr 1
  · rw [if_neg e0]
    by_cases e1 : way = 1
    · rw [if_pos e1, i1, i2, ← Int.natCast_mul, ← Int.natCast_mul, ← p, ← c2]
      subst e1
      have n3 := cnt_not (xs := D1 ++ D2) (f := fun ρ => wayF 1 (f ρ) (g ρ))
      have e : cnt (D1 ++ D2) (fun ρ => !wayF 1 (f ρ) (g ρ)) = cnt (D1 ++ D2) (fun ρ => !f ρ && !g ρ) := cnt_congr fun ρ => by cases f ρ <;> cases g ρ <;> rfl
      rw [e] at n3
      omega
    · rw [if_neg e1]
      by_cases e2 : way = 2
      · rw [if_pos e2, i1, i2, ← Int.natCast_mul, ← Int.natCast_mul, ← Int.natCast_add, ← alike]
        subst e2
        congr 1
        exact cnt_congr fun ρ => by cases f ρ <;> cases g ρ <;> rfl
      · rw [if_neg e2, i1, i2, ← Int.natCast_mul, ← Int.natCast_mul, ← Int.natCast_mul, ← Int.natCast_add, ← alike, ← p]
        have n3 := cnt_not (xs := D1 ++ D2) (f := fun ρ => f ρ == g ρ)
        have e : cnt (D1 ++ D2) (fun ρ => wayF way (f ρ) (g ρ)) = cnt (D1 ++ D2) (fun ρ => !(f ρ == g ρ)) := cnt_congr fun ρ => by
          unfold wayF
          rw [if_neg (not_lt2 (by assumption) e0 e1), decide_eq_false e2]
          cases f ρ <;> cases g ρ <;> rfl
        rw [e]
        omega
end Mine
end
section
set_option Elab.async false
set_option maxRecDepth 100000
set_option linter.unusedVariables false
set_option linter.unusedSimpArgs false
namespace Mine

structure LI where
  i : CI
  f : Nat
  s : Nat
  hfs : f ≠ s
  df : f ≠ i.a1 ∧ f ≠ i.a2 ∧ f ≠ i.a3
  ds : s ≠ i.a1 ∧ s ≠ i.a2 ∧ s ≠ i.a3
  cells : List Int
  blend : Int
  hc : cells.length ≤ 48
  hb : 0 ≤ blend ∧ blend ≤ 10000
noncomputable def feedO (cells : List Int) (blend : Int) (k : Nat) : AObj := .dS [("cells", .fl (cells.map .int)), ("count", .int k), ("blend", .int blend)]
noncomputable def seenO (sn : List Int) : AObj := .list (sn.map .int)
noncomputable def putL (L : LI) (C : Circ) (k : Nat) (sn : List Int) (hp : HP) : HP := putC L.i C ((hp.set L.f (feedO L.cells L.blend k)).set L.s (seenO sn))

section
variable {L : LI} {C : Circ} {k : Nat} {sn : List Int} {hp : HP} {K : AV → HP → Prop} {n : Nat}
theorem putL_f : putL L C k sn hp L.f = some (feedO L.cells L.blend k) := by
  unfold putL; rw [putC_ne L.df, HP.set_ne L.hfs, HP.set_self]
theorem putL_s : putL L C k sn hp L.s = some (seenO sn) := by
  unfold putL; rw [putC_ne L.ds, HP.set_self]
theorem putL_setf {k' : Nat} : (putL L C k sn hp).set L.f (feedO L.cells L.blend k') = putL L C k' sn hp := by
  unfold putL; rw [putC_comm L.df.1 L.df.2.1 L.df.2.2, set_comm (Ne.symm L.hfs), set_set]
theorem putL_sets {sn' : List Int} : (putL L C k sn hp).set L.s (seenO sn') = putL L C k sn' hp := by
  unfold putL; rw [putC_comm L.ds.1 L.ds.2.1 L.ds.2.2, set_set]

theorem feedO_put {cells : List Int} {blend : Int} : AObj.dS (aPut [("cells", AV.fl (cells.map .int)), ("count", .int k), ("blend", .int blend)] "count" (.int ((k : Int) + 1))) = feedO cells blend (k + 1) := rfl
theorem draw_ok {cells : List Int} {blend : Int} {f : Nat} {many : Int} (hf : hp f = some (feedO cells blend k)) (hm : 0 < many) (hk : k ≤ 1000) (hc : cells.length ≤ 48) (hb : 0 ≤ blend ∧ blend ≤ 10000)
    (hK : ∀ d : Int, 0 ≤ d → d < many → K (.int d) (hp.set f (feedO cells blend (k + 1)))) :
    Call P (n + 1) "_law_draw" [.ref f, .int many] hp K := by
  refine call2 rfl ?_
  unfold b_law_draw
  have hf' : (hp.set f (feedO cells blend (k + 1))) f = some (feedO cells blend (k + 1)) := HP.set_self
  walk_at "go"
  refine g_gs (v := .int k) ((ix_rS hf).trans rfl) ?_
  walk_at "go"
  refine g_setS hf (show 3 ≤ SZ by decide) ?_
  rw [feedO_put]
  walk_at "go"
  refine g_gs (v := .fl (cells.map .int)) ((ix_rS hf').trans rfl) ?_
  walk_at "go"
  refine g_len ln_fl (by rw [List.length_map]; unfold SZ; exact Nat.le_trans hc (by decide)) ?_
  rw [List.length_map]
  walk_at "go"
  by_cases hlt : k < cells.length
  · refine g_dpos (Int.ofNat_lt.mpr hlt) ?_
    walk_at "go"
    refine g_gs (v := .fl (cells.map .int)) ((ix_rS hf').trans rfl) ?_
    walk_at "go"
    refine g_gi (v := .int cells[k]) (seqGet_map (List.getElem?_eq_getElem hlt)) (smallN (by unfold SZ; exact Nat.le_trans hk (by decide))) ?_
    walk_at "go"
    refine g_mod hm ?_
    walk_at "go"
    exact g_fin0 (hK _ (Int.emod_nonneg _ (by exact Int.ne_of_gt hm)) (Int.emod_lt_of_pos _ hm))
  · refine g_dneg (fun h => hlt (Int.ofNat_lt.mp h)) ?_
    have sk : small (k : Int) := small_of (by exact Int.natCast_nonneg _) (by exact Int.le_trans (Int.ofNat_le.mpr hk) (by decide))
    walk_at "go"
    refine g_gs (v := .int blend) ((ix_rS hf').trans rfl) ?_
    walk_at "go"
    refine g_mul (small_of (by decide) (by decide)) (small_of hb.1 (by exact Int.le_trans hb.2 (by decide))) ?_
    walk_at "go"
    refine g_mul (small_of (by decide) (by decide)) sk ?_
    walk_at "go"
    refine g_mul (small_of (by exact Int.natCast_nonneg _) (by exact Int.le_trans (Int.ofNat_le.mpr (Nat.mul_le_mul_left _ hk)) (by decide))) sk ?_
    walk_at "go"
    refine g_mul (small_of (by decide) (by decide)) sk ?_
    walk_at "go"
    refine g_mod (by decide) ?_
    walk_at "go"
    refine g_mod hm ?_
    walk_at "go"
    exact g_fin0 (hK _ (Int.emod_nonneg _ (by exact Int.ne_of_gt hm)) (Int.emod_lt_of_pos _ hm))

theorem drawL_ok {many : Int} (hm : 0 < many) (hk : k ≤ 1000) (hK : ∀ d : Int, 0 ≤ d → d < many → K (.int d) (putL L C (k + 1) sn hp)) : Call P (n + 1) "_law_draw" [.ref L.f, .int many] (putL L C k sn hp) K :=
  draw_ok putL_f hm hk L.hc L.hb fun d h1 h2 => by rw [putL_setf]; exact hK d h1 h2

theorem rows_ok {way g1 g2 a b w1 w2 : Int} (h1 : 0 ≤ w1 ∧ w1 ≤ 20) (h2 : 0 ≤ w2 ∧ w2 ≤ 20) (ha : 0 ≤ a ∧ a ≤ 2 ^ w1.toNat) (hb : 0 ≤ b ∧ b ≤ 2 ^ w2.toNat) (hK : K (.int (rowsF way a (2 ^ w1.toNat) b (2 ^ w2.toNat))) hp) :
    Call P (n + 1) "_law_rows" [.int way, .tup [.int g1, .int a, .int w1], .tup [.int g2, .int b, .int w2]] hp K := by
  have pw : ∀ w : Int, 0 ≤ w ∧ w ≤ 20 → (2 : Int) ^ w.toNat ≤ 1048576 := fun w hw => by
    have := Nat.pow_le_pow_right (n := 2) (i := w.toNat) (j := 20) (by decide) (by omega)
    have h : ((2 ^ w.toNat : Nat) : Int) ≤ ((2 ^ 20 : Nat) : Int) := Int.ofNat_le.mpr this
    rwa [Int.natCast_pow] at h
  have p1 := pw w1 h1
  have p2 := pw w2 h2
  clear pw
  have s2 : small 2 := by unfold small; exact by decide
  have s1 : small 1 := by unfold small; exact by decide
  refine call3 rfl ?_
  unfold b_law_rows
  unfold rowsF at hK
  walk_at "go"
  refine g_gi (v := .int a) rfl s1 ?_
  walk_at "go"
  refine g_gi (v := .int w1) rfl s2 ?_
  walk_at "go"
  refine g_pow s2 h1.1 (by exact Int.le_trans h1.2 (by decide)) ?_
  walk_at "go"
  refine g_gi (v := .int b) rfl s1 ?_
  walk_at "go"
  refine g_gi (v := .int w2) rfl s2 ?_
  walk_at "go"
  refine g_pow s2 h2.1 (by exact Int.le_trans h2.2 (by decide)) ?_
  walk_at "go"
  generalize (2 : Int) ^ w1.toNat = N at *
  generalize (2 : Int) ^ w2.toNat = M at *
  have sa : small a := small_of (by exact And.left ha) (by exact Int.le_trans ha.2 (Int.le_trans p1 (by decide)))
  have sb : small b := small_of (by exact And.left hb) (by exact Int.le_trans hb.2 (Int.le_trans p2 (by decide)))
  have sN : small N := small_of (by exact Int.le_trans ha.1 ha.2) (by exact Int.le_trans p1 (by decide))
  have sM : small M := small_of (by exact Int.le_trans hb.1 hb.2) (by exact Int.le_trans p2 (by decide))
  have sNa : small (N - a) := small_of (by exact Int.sub_nonneg_of_le ha.2) (by exact Int.le_trans (Int.sub_le_self _ ha.1) (Int.le_trans p1 (by decide)))
  have sMb : small (M - b) := small_of (by exact Int.sub_nonneg_of_le hb.2) (by exact Int.le_trans (Int.sub_le_self _ hb.1) (Int.le_trans p2 (by decide)))
  by_cases e0 : way = 0
  · rw [if_pos e0] at hK
    refine g_dpos e0 ?_
    walk_at "go"
    refine g_mul sa sb ?_
    walk_at "go"
    exact g_fin0 hK
  · rw [if_neg e0] at hK
    refine g_dneg e0 ?_
    walk_at "go"
    by_cases e1 : way = 1
    · rw [if_pos e1] at hK
      refine g_dpos e1 ?_
      walk_at "go"
      refine g_mul sN sM ?_
      walk_at "go"
      refine g_mul sNa sMb ?_
      walk_at "go"
      exact g_fin0 hK
    · rw [if_neg e1] at hK
      refine g_dneg e1 ?_
      walk_at "go"
      refine g_mul sa sb ?_
      walk_at "go"
      refine g_mul sNa sMb ?_
      walk_at "go"
      by_cases e2 : way = 2
      · rw [if_pos e2] at hK
        refine g_dpos e2 ?_
        walk_at "go"
        exact g_fin0 hK
      · rw [if_neg e2] at hK
        refine g_dneg e2 ?_
        walk_at "go"
        refine g_mul sN sM ?_
        walk_at "go"
        exact g_fin0 hK
end
end Mine
end
section
set_option Elab.async false
set_option maxRecDepth 100000
set_option linter.unusedVariables false
set_option linter.unusedSimpArgs false
namespace Mine

/-- a circuit that is being built, and its inputs -/
structure BOk (C : Circ) (sn : List Int) : Prop where
  wc : WC C
  kl : C.known.length ≤ C.gs.length
  nd : sn.Nodup
  inp : ∀ x ∈ sn, ∃ n : Nat, x = n ∧ C.gs[n]? = some ("input", [])
  all : ∀ (n : Nat) ps, C.gs[n]? = some ("input", ps) → (n : Int) ∈ sn
/-- what is asked: a gate, its rows, its inputs -/
structure AskOk (C : Circ) (g rows : Int) (D : List Int) : Prop where
  nd : D.Nodup
  li : lit C.gs g
  dep : Dep (fun ρ => Lit C.gs ρ g) D
  rows : rows = cnt D (fun ρ => Lit C.gs ρ g)

section
variable {L : LI} {C C' : Circ} {k m : Nat} {sn : List Int} {hp : HP} {K : AV → HP → Prop} {n : Nat} {g rows : Int} {D : List Int}

theorem prefix_get {α : Type} {l l' : List α} (h : l <+: l') {i : Nat} {a : α} (e : l[i]? = some a) : l'[i]? = some a := by
  obtain ⟨t, rfl⟩ := h
  rw [List.getElem?_append_left (List.getElem?_eq_some_iff.mp e).1]; exact e
theorem BOk.grow (b : BOk C sn) (x : Grow C C' m) : BOk C' sn := by
  refine ⟨x.wc, x.kl, b.nd, fun y hy => ?_, fun n ps h => ?_⟩
  · obtain ⟨n, e, h⟩ := b.inp y hy
    exact ⟨n, e, prefix_get x.pre h⟩
  · have h1 := x.noin n ps h
    refine b.all n ps ?_
    obtain ⟨t, e⟩ := x.pre
    rw [← e, List.getElem?_append_left h1] at h; exact h
noncomputable def addIn (C : Circ) : Circ := { C with gs := C.gs ++ [("input", [])] }
theorem BOk.add (b : BOk C sn) : BOk (addIn C) (sn ++ [(C.gs.length : Int)]) := by
  have hl := b.wc.wg.len
  have hpre : C.gs <+: C.gs ++ [("input", [])] := List.prefix_append _ _
  have hnew : ∀ (n : Nat) g, (C.gs ++ [("input", ([] : List Int))])[n]? = some g → C.gs[n]? = some g ∨ (n = C.gs.length ∧ g = ("input", [])) := fun n g h => by
    by_cases q : n < C.gs.length
    · rw [List.getElem?_append_left q] at h; exact .inl h
    · have := get_lt h
      simp at this
      have e : n = C.gs.length := Nat.le_antisymm (Nat.le_of_lt_succ this) (Nat.not_lt.mp q)
      subst e
      simp at h
      exact .inr ⟨rfl, h.symm⟩
  refine ⟨⟨⟨prefix_get hpre b.wc.wg.g0, prefix_get hpre b.wc.wg.g1, fun i g h hi => ?_⟩, fun ks v h => ?_⟩, ?_, ?_, fun x hx => ?_, fun n ps h => ?_⟩
  · rcases hnew i g h with q | ⟨_, q⟩
    · exact b.wc.wg.gate i g q hi
    · exact .inl q
  · obtain ⟨n, a, c, d⟩ := b.wc.kn ks v h
    exact ⟨n, a, prefix_get hpre c, d⟩
  · have := b.kl; show C.known.length ≤ (C.gs ++ [("input", [])]).length; simp; exact Nat.le_succ_of_le this
  · rw [List.nodup_append]
    refine ⟨b.nd, by simp, fun x hx y hy e => ?_⟩
    simp at hy; subst hy
    obtain ⟨n, e1, h⟩ := b.inp x hx
    exact absurd (get_lt h) (Nat.not_lt_of_le (Nat.le_of_eq (Int.ofNat.inj (e.symm.trans e1))))
  · rcases List.mem_append.mp hx with q | q
    · obtain ⟨n, e, h⟩ := b.inp x q
      exact ⟨n, e, prefix_get hpre h⟩
    · simp at q
      exact ⟨C.gs.length, q, by show (C.gs ++ [("input", [])])[_]? = _; simp⟩
  · rcases hnew n _ h with q | ⟨q, _⟩
    · exact List.mem_append_left _ (b.all n ps q)
    · subst q; simp
theorem AskOk.mono (a : AskOk C g rows D) (h : C.gs <+: C'.gs) : AskOk C' g rows D :=
  ⟨a.nd, a.li.mono h, fun ρ ρ' e => by show Lit _ _ _ = Lit _ _ _; rw [Lit_stable h a.li, Lit_stable h a.li]; exact a.dep ρ ρ' e, by rw [a.rows]; congr 1; exact cnt_congr fun ρ => (Lit_stable h a.li).symm⟩

theorem newInputL (hz : C.gs.length < SZ) (hK : K (.int C.gs.length) (putL L (addIn C) k sn hp)) : Call P (n + 2) "Circuit.new_input" [cAV L.i] (putL L C k sn hp) K := new_input_ok hz hK
theorem joinedL {a b way : Int} (hr : room C 3) (hK : K (.int (joinedF C a b way).2) (putL L (joinedF C a b way).1 k sn hp)) : Call P (n + 6) "_law_joined" [cAV L.i, .int a, .int b, .int way] (putL L C k sn hp) K := joined_ok hr hK
theorem chooseL {a b c : Int} (hr : room C 3) (hK : K (.int (chooseF C c a b).2) (putL L (chooseF C c a b).1 k sn hp)) : Call P (n + 4) "Circuit.choose" [cAV L.i, .int c, .int a, .int b] (putL L C k sn hp) K := choose_ok hr hK

theorem items_range {m : Nat} {z : Int} (h : z = m) : itemsOf (.rng 0 z) = some ((List.range m).map fun (r : Nat) => AV.int (r : Int)) := by
  subst h
  unfold itemsOf rangeL
  simp
theorem pow_cast (w : Nat) : (2 : Int) ^ w = ((2 ^ w : Nat) : Int) := by simp
theorem lit_input {x : Nat} (w : WG C.gs) (h : C.gs[x]? = some ("input", [])) (h1 : 1 ≤ x) {ρ : Int → Bool} : Lit C.gs ρ (x : Int) = ρ x := by
  rw [Lit_pos h1, V_input h]
theorem BOk.pos (b : BOk C sn) {x : Int} (h : x ∈ sn) : ∃ n : Nat, x = n ∧ 2 ≤ n ∧ n < C.gs.length ∧ C.gs[n]? = some ("input", []) := by
  obtain ⟨n, e, hn⟩ := b.inp x h
  refine ⟨n, e, ?_, get_lt hn, hn⟩
  have h0 : n ≠ 0 := fun q => by subst q; rw [b.wc.wg.g0] at hn; simp at hn
  have h1 : n ≠ 1 := fun q => by subst q; rw [b.wc.wg.g1] at hn; simp at hn
  exact Nat.lt_of_le_of_ne (Nat.pos_of_ne_zero h0) (Ne.symm h1)

theorem bit_cast (r k : Nat) : decide ((r : Int) / 2 ^ k % 2 = 1) = (r / 2 ^ k % 2 == 1) := by
  have h : (r : Int) / 2 ^ k % 2 = ((r / 2 ^ k % 2 : Nat) : Int) := by simp
  rw [h]
  generalize r / 2 ^ k % 2 = z
  by_cases q : z = 1
  · subst q; rfl
  · rw [decide_eq_false (p := (z : Int) = 1) (fun e => q (Int.ofNat.inj e))]; simp [q]

theorem seqGet_ix {l : List Int} {i : Int} {k : Nat} {x : Int} (h : i = k) (hx : l[k]? = some x) : seqGet (l.map .int) i = some (.int x) := by
  subst h; exact seqGet_map hx

theorem iteK {CC : CallSem} {e e1 : E} {loc : Loc} {b : Bool} (Pp : Int → Prop) (h1 : b = true → (∀ o, Pp o → K (.int o) hp) → wpE CC e loc hp K) (h2 : b = false → (∀ o, Pp o → K (.int o) hp) → wpE CC e1 loc hp K) (h : ∀ o, Pp o → K (.int o) hp) :
    if b = true then wpE CC e loc hp K else wpE CC e1 loc hp K := by
  cases b with
  | true => exact g_pos rfl (h1 rfl h)
  | false => exact g_nega rfl (h2 rfl h)
noncomputable def tabV (own : List Int) (C2 : Circ) (g : Int) : AV := .fl ((List.range (2 ^ own.length)).map fun r => .bool (Lit C2.gs (asgL own r) g))
inductive BkI (L : LI) (C : Circ) (k : Nat) (sn : List Int) (hp : HP) (W : Nat) (xs acc : List AV) (h : HP) : Prop
  | mk (own : List Int) (C1 : Circ) (e1 : xs.length + own.length = W) (e2 : acc = own.map .int) (e3 : h = putL L C1 (k + 1) sn hp) (B : BOk C1 (sn ++ own)) (pre : C.gs <+: C1.gs) (len : C1.gs.length = C.gs.length + own.length) : BkI L C k sn hp W xs acc h
inductive BkJ (L : LI) (C1 : Circ) (k : Nat) (sn : List Int) (hp : HP) (own : List Int) (xs : List AV) (l : Loc) (h : HP) : Prop
  | mk (C2 : Circ) (pr rest : List Nat) (k2 : Nat) (g : Int) (e1 : xs = rest.map (fun (t : Nat) => AV.int (1 + (t : Int)))) (e2 : pr ++ rest = List.range (own.length - 1)) (l1 : l "feed" = some (.ref L.f)) (l2 : l "circuit" = some (cAV L.i)) (l3 : l "wide" = some (.int own.length)) (l4 : l "own" = some (.fl (own.map .int)))
      (l5 : l "gate" = some (.int g)) (l6 : l "table" = some (tabV own C2 g)) (e3 : h = putL L C2 k2 (sn ++ own) hp) (G2 : Grow C1 C2 (3 * pr.length)) (e4 : k2 = k + 1 + 2 * pr.length) (li2 : lit C2.gs g) (dep2 : Dep (fun ρ => Lit C2.gs ρ g) own) : BkJ L C1 k sn hp own xs l h

theorem block_ok {most : Int} (hm : 1 ≤ most ∧ most ≤ 3) (B : BOk C sn) (hk : k + 6 ≤ 1000) (hg : C.gs.length ≤ 100) (hs : sn.length ≤ 100)
    (hK : ∀ C' k' own g rows, BOk C' (sn ++ own) → C.gs <+: C'.gs → C'.gs.length ≤ C.gs.length + own.length + 3 * (own.length - 1) → (own.length : Int) ≤ most → 1 ≤ own.length → k' ≤ k + 5 → AskOk C' g rows own →
      K (.tup [.int g, .int rows, .int own.length]) (putL L C' k' (sn ++ own) hp)) :
    Call P (n + 7) "_law_block" [.ref L.f, cAV L.i, .ref L.s, .int most] (putL L C k sn hp) K := by
  refine call4 rfl ?_
  unfold b_law_block
  walk_at "go"
  refine drawL_ok (by exact And.left hm) (by exact Nat.le_trans (Nat.le_add_right _ _) hk) fun d d0 d1 => ?_
  obtain ⟨W, hW, hW1, hWm⟩ : ∃ W : Nat, 1 + d = W ∧ 1 ≤ W ∧ (W : Int) ≤ most := by
    obtain ⟨w0, rfl⟩ := Int.eq_ofNat_of_zero_le d0
    exact ⟨w0 + 1, Int.add_comm _ _, Nat.le_add_left _ _, d1⟩
  have hW3 : W ≤ 3 := Int.ofNat_le.mp (Int.le_trans hWm hm.2)
  clear d0 d1
  have h8 : 2 ^ W ≤ 8 := Nat.pow_le_pow_right (n := 2) (i := W) (j := 3) (by exact Nat.le_add_left _ _) hW3
  walk_at "go"
  rw [hW]
  walk_at "go"
  refine g_range1 (smallN (by unfold SZ; exact Nat.le_trans hW3 (by decide))) ?_
  walk_at "go"
  refine ⟨_, items_range rfl, by rw [List.length_map, List.length_range]; exact Nat.le_trans hW3 (by decide), ?_⟩
  refine wpComp_ind (BkI L C k sn hp W) (fun acc h hI => ?_) (fun Q y xs acc h hQ hI => ?_) ⟨[], C, by rw [List.length_map, List.length_range]; rfl, rfl, rfl, by rw [List.append_nil]; exact B, List.prefix_refl _, rfl⟩
  · obtain ⟨own, C1, e1, rfl, rfl, B1, pre1, len1⟩ := hI
    have e1 : own.length = W := (Nat.zero_add _).symm.trans e1
    subst e1
    have hset : (putL L C1 (k + 1) sn hp).set L.s (.list (sn.map .int ++ own.map .int)) = putL L C1 (k + 1) (sn ++ own) hp := by
      rw [← List.map_append]; exact putL_sets
    obtain ⟨o0, ho0⟩ : ∃ o0, own[0]? = some o0 := ⟨_, List.getElem?_eq_getElem hW1⟩
    have hownd : own.Nodup := (List.nodup_append.mp B1.nd).2.1
    have hin : ∀ x ∈ own, ∃ n : Nat, x = n ∧ 2 ≤ n ∧ n < C1.gs.length ∧ C1.gs[n]? = some ("input", []) := fun x hx => B1.pos (List.mem_append_right _ hx)
    have hlen1 : C1.gs.length ≤ 103 := by rw [len1]; exact Nat.add_le_add hg hW3
    have s2 : small 2 := by unfold small; exact by decide
    have w0 : (0 : Int) ≤ own.length := by exact Int.natCast_nonneg _
    have w1 : (own.length : Int) ≤ 1000 := Int.le_trans (Int.ofNat_le.mpr hW3) (by decide)
    have hpw : small ((2 : Int) ^ own.length) := by rw [pow_cast]; exact smallN (by unfold SZ; exact Nat.le_trans h8 (Nat.le_add_left _ _))
    have hrl : ((List.range (2 ^ own.length)).map fun r : Nat => AV.int (r : Int)).length ≤ SZ := by rw [List.length_map, List.length_range]; unfold SZ; exact Nat.le_trans h8 (Nat.le_add_left _ _)
    obtain ⟨n0, rfl, n1, n2, n3⟩ := hin o0 (List.mem_of_getElem? ho0)
    have htab0 : AV.fl ([] ++ (List.range (2 ^ own.length)).map fun r : Nat => AV.bool (decide ((r : Int) % 2 = 1))) = tabV own C1 n0 := by
      unfold tabV
      congr 1
      refine List.map_congr_left fun r _ => ?_
      congr 1
      rw [lit_input B1.wc.wg n3 (by exact Nat.le_of_lt n1), asgL_get hownd ho0]
      have := bit_cast r 0
      simpa using this
    walk_at "go"
    refine g_textend putL_s ?_
    walk_at "go"
    refine g_extend putL_s (by rw [List.length_map, List.length_map]; exact Nat.le_trans (Nat.add_le_add hs hW3) (by decide)) ?_
    rw [hset]
    walk_at "go"
    refine g_gi (v := .int n0) (seqGet_map ho0) (by unfold small; exact by decide) ?_
    walk_at "go"
    refine g_pow s2 w0 w1 ?_
    walk_at "go"
    refine g_range1 hpw ?_
    walk_at "go"
    refine ⟨_, items_range (m := 2 ^ own.length) (pow_cast own.length), hrl, ?_⟩
    refine wpComp_pure (f := fun r : Nat => AV.bool (decide ((r : Int) % 2 = 1))) (fun r hr => ⟨_, rfl, fun K hK => ?_⟩) ?_
    · walk_at "go"
      refine g_mod (by decide) ?_
      walk_at "go"
      exact hK
    rw [htab0]
    walk_at "go"
    refine g_range2 (by unfold small; exact by decide) (smallN (by unfold SZ; exact Nat.le_trans hW3 (by decide))) ?_
    walk_at "go"
    refine ⟨(List.range (own.length - 1)).map (fun (t : Nat) => AV.int (1 + (t : Int))), ?_, ?_⟩
    · simp only [itemsOf, rangeL]
      rw [show ((own.length : Int) - 1).toNat = own.length - 1 from Int.toNat_sub _ 1]
    refine wpFor_ind (BkJ L C1 k sn hp own) (fun l h hI => ?_) (fun Q y xs l h hQ hI => ?_) ⟨C1, [], _, k + 1, n0, rfl, rfl, by walk_at "lk", by walk_at "lk", by walk_at "lk", by walk_at "lk", by walk_at "lk", by walk_at "lk", rfl, Grow.refl B1.wc B1.kl, rfl, ⟨Nat.le_of_lt n1, n2⟩, fun ρ ρ' e => ?_⟩
    · obtain ⟨C2, pr, rest, k2, g, e1, e2, l1, l2, l3, l4, l5, l6, rfl, G2, rfl, li2, dep2⟩ := hI
      have : rest = [] := by cases rest with | nil => rfl | cons _ _ => cases e1
      subst this
      rw [List.append_nil] at e2
      have hprl : pr.length = own.length - 1 := by rw [e2, List.length_range]
      have ht : tabV own C2 g = .fl (((List.range (2 ^ own.length)).map fun r => Lit C2.gs (asgL own r) g).map .bool) := by show AV.fl _ = AV.fl _; rw [List.map_map]; rfl
      walk_at "go"
      rw [ht]
      refine many_ok (by rw [List.length_map, List.length_range]; unfold SZ; exact Nat.le_trans h8 (Nat.le_add_left _ _)) ?_
      rw [← cnt_rows (f := fun ρ => Lit C2.gs ρ g)]
      walk_at "go"
      have hln := G2.len
      exact g_fin0 (hK C2 _ own g _ (B1.grow G2) (pre1.trans G2.pre) (by rw [← hprl, ← len1]; exact hln) hWm hW1 (Nat.add_le_add_left (Nat.mul_le_mul_left 2 (hprl ▸ Nat.sub_le_sub_right hW3 1)) (k + 1)) ⟨hownd, li2, dep2, rfl⟩)
    · obtain ⟨C2, pr, rest, k2, g, e1, e2, l1, l2, l3, l4, l5, l6, rfl, G2, rfl, li2, dep2⟩ := hI
      cases rest with
      | nil => cases e1
      | cons t rest =>
      simp only [List.map_cons, List.cons.injEq] at e1
      obtain ⟨rfl, rfl⟩ := e1
      have hprl : pr.length + (rest.length + 1) = own.length - 1 := by have := congrArg List.length e2; rwa [List.length_append, List.length_range] at this
      have ht : t < own.length - 1 := by
        have : t ∈ List.range (own.length - 1) := by rw [← e2]; exact List.mem_append_right _ List.mem_cons_self
        exact List.mem_range.mp this
      have hln := G2.len
      have hkl := G2.kl
      refine ⟨_, rfl, ?_⟩
      walk_at "go"
      have hp1 : pr.length ≤ 1 := Nat.le_of_succ_le_succ (Nat.le_trans (Nat.add_le_add_left (Nat.le_add_left 1 rest.length) pr.length) (hprl ▸ Nat.sub_le_sub_right hW3 1))
      have hkA : k + 1 + 2 * pr.length ≤ k + 3 := Nat.add_le_add_left (Nat.mul_le_mul_left 2 hp1) (k + 1)
      have ht1 : t + 1 < own.length := Nat.add_lt_of_lt_sub ht
      have ht2 : t + 1 ≤ 2 := Nat.le_of_lt_succ (Nat.lt_of_lt_of_le ht1 hW3)
      have hti : 1 + (t : Int) ≤ 2 := by rw [Int.add_comm]; exact Int.ofNat_le.mpr ht2
      have hc2 : C2.gs.length ≤ 106 := Nat.le_trans hln (Nat.add_le_add hlen1 (Nat.mul_le_mul_left 3 hp1))
      refine drawL_ok (by decide) (Nat.le_trans hkA (Nat.le_trans (Nat.add_le_add_left (by decide : 3 ≤ 6) k) hk)) fun way w0' w1' => ?_
      walk_at "go"
      refine drawL_ok (by decide) (Nat.le_trans (Nat.succ_le_succ hkA) (Nat.le_trans (Nat.add_le_add_left (by decide : 4 ≤ 6) k) hk)) fun pl p0 p1 => ?_
      walk_at "go"
      obtain ⟨ok, hok⟩ : ∃ ok, own[t + 1]? = some ok := ⟨_, List.getElem?_eq_getElem ht1⟩
      obtain ⟨nk, rfl, nk1, nk2, nk3⟩ := hin ok (List.mem_of_getElem? hok)
      have hasg : ∀ r, asgL own r nk = (r / 2 ^ (t + 1) % 2 == 1) := fun r => asgL_get hownd hok
      have nk2' : nk < C2.gs.length := Nat.lt_of_lt_of_le nk2 G2.pre.length_le
      have hLk : ∀ ρ, Lit C2.gs ρ (nk : Int) = ρ nk := fun ρ => lit_input G2.wc.wg (prefix_get G2.pre nk3) (by exact Nat.le_of_lt nk1)
      have hlk : lit C2.gs (nk : Int) := ⟨Nat.le_of_lt nk1, nk2'⟩
      have hT : (1 + (t : Int)).toNat = t + 1 := by exact Nat.add_comm _ _
      have st : small (1 + (t : Int)) := small_of (by exact Int.natCast_nonneg _) (Int.le_trans hti (by decide))
      have h4 : 2 ^ (t + 1) ≤ 4 := Nat.pow_le_pow_right (n := 2) (i := t + 1) (j := 2) (by exact Nat.le_add_left _ _) ht2
      have h41 := pow_pos' (t + 1)
      have hpt0 : (0 : Int) < 2 ^ (t + 1) := by rw [pow_cast]; exact Int.ofNat_lt.mpr h41
      have hpt1 : (2 : Int) ^ (t + 1) ≤ 1000000 := by rw [pow_cast]; exact Int.le_trans (Int.ofNat_le.mpr h4) (by decide)
      have hix : seqGet (own.map .int) (1 + (t : Int)) = some (.int nk) := seqGet_ix (k := t + 1) (by exact Int.add_comm _ _) hok
      refine iteK (fun o => lit C2.gs o ∧ ∀ ρ, Lit C2.gs ρ o = (ρ nk == decide (pl = 0))) (fun e h => ?_) (fun e h => ?_) fun oth ⟨hlo, hoth⟩ => ?_
      · walk_at "go"
        refine g_gi hix st ?_
        exact h _ ⟨hlk, fun ρ => by rw [hLk, e]; cases ρ nk <;> rfl⟩
      · walk_at "go"
        refine g_gi hix st ?_
        refine g_sub ?_
        rw [Int.zero_sub]
        exact h _ ⟨hlk.neg, fun ρ => by rw [Lit_neg hlk, hLk, e]; cases ρ nk <;> rfl⟩
      walk_at "go"
      refine g_pow s2 w0 w1 ?_
      walk_at "go"
      refine g_range1 hpw ?_
      walk_at "go"
      refine ⟨_, items_range (m := 2 ^ own.length) (pow_cast own.length), hrl, ?_⟩
      refine wpComp_pure (f := fun r : Nat => AV.bool (Lit C2.gs (asgL own r) oth)) (fun r hr => ⟨_, rfl, fun K hK => ?_⟩) ?_
      · walk_at "go"
        refine g_pow s2 (by exact Int.natCast_nonneg _) (Int.le_trans hti (by decide)) ?_
        rw [hT]
        walk_at "go"
        refine g_fdiv hpt0 hpt1 ?_
        walk_at "go"
        refine g_mod (by decide) ?_
        walk_at "go"
        rw [bit_cast, ← hasg r]
        have e : decide (asgL own r nk = decide (pl = 0)) = Lit C2.gs (asgL own r) oth := by rw [hoth]; cases asgL own r nk <;> cases decide (pl = 0) <;> rfl
        rw [e]; exact hK
      walk_at "go"
      refine joinedL ⟨Nat.le_trans (Nat.add_le_add_right hc2 3) (by decide), Nat.le_trans (Nat.add_le_add_right (Nat.le_trans hkl hc2) 3) (by decide)⟩ ?_
      have J := joined_sem (way := way) G2.wc G2.kl li2 hlo w0'
      walk_at "go"
      refine g_pow s2 w0 w1 ?_
      walk_at "go"
      refine g_range1 hpw ?_
      walk_at "go"
      refine ⟨_, items_range (m := 2 ^ own.length) (pow_cast own.length), hrl, ?_⟩
      refine wpComp_pure (f := fun r : Nat => AV.bool (Lit (joinedF C2 g oth way).1.gs (asgL own r) (joinedF C2 g oth way).2)) (fun r hr => ⟨_, rfl, fun K hK => ?_⟩) ?_
      · have hr' : r < 2 ^ own.length := List.mem_range.mp hr
        have hrs : small (r : Int) := smallN (Nat.le_trans (Nat.le_of_lt hr') (Nat.le_trans h8 (by decide)))
        rw [J.sem] at hK
        have hget : ((List.range (2 ^ own.length)))[r]? = some r := List.getElem?_range hr'
        walk_at "go"
        refine g_gi (v := .bool (Lit C2.gs (asgL own r) g)) (seqGet_nat (by rw [List.getElem?_map, hget]; rfl)) hrs ?_
        walk_at "go"
        refine g_gi (v := .bool (Lit C2.gs (asgL own r) oth)) (seqGet_nat (by rw [List.nil_append, List.getElem?_map, hget]; rfl)) hrs ?_
        walk_at "go"
        exact way_ok hK
      walk_at "go"
      have g3 := (G2.trans J.grow).less (m := 3 * (pr ++ [t]).length) (by rw [List.length_append, List.length_singleton]; exact Nat.le_refl _)
      refine ⟨_, HP.Sub.refl _, hQ _ _ ⟨(joinedF C2 g oth way).1, pr ++ [t], rest, _, (joinedF C2 g oth way).2, rfl, by rw [List.append_assoc]; exact e2, by walk_at "lk", by walk_at "lk", by walk_at "lk", by walk_at "lk", by walk_at "lk", by walk_at "lk", rfl, g3, by rw [List.length_append, List.length_singleton]; exact rfl, J.li, fun ρ ρ' e => ?_⟩⟩
      have d1 := dep2 ρ ρ' e
      dsimp only at d1 ⊢
      rw [J.sem, J.sem, d1, hoth, hoth, e (nk : Int) (List.mem_of_getElem? hok)]
    · dsimp only
      rw [lit_input B1.wc.wg n3 (Nat.le_of_lt n1), lit_input B1.wc.wg n3 (Nat.le_of_lt n1)]
      exact e _ (List.mem_of_getElem? ho0)
  · obtain ⟨own, C1, e1, rfl, rfl, B1, pre1, len1⟩ := hI
    refine ⟨_, rfl, g_pos rfl ?_⟩
    rw [List.length_cons] at e1
    walk_at "go"
    refine newInputL (C := C1) (by rw [len1]; exact Nat.lt_of_le_of_lt (Nat.add_le_add hg (Nat.le_trans (Nat.le_trans (Nat.le_add_left _ _) (Nat.le_of_eq e1)) hW3)) (by decide)) ?_
    refine hQ _ _ ⟨own ++ [(C1.gs.length : Int)], addIn C1, by rw [List.length_append, List.length_singleton, ← e1, Nat.add_assoc, Nat.add_comm 1], by rw [List.map_append]; rfl, rfl, by rw [← List.append_assoc]; exact B1.add, pre1.trans (List.prefix_append _ _), ?_⟩
    rw [List.length_append, List.length_singleton]
    show (C1.gs ++ [("input", [])]).length = _
    rw [List.length_append, List.length_singleton]; exact congrArg _ len1
end
end Mine
end
section
set_option Elab.async false
set_option maxRecDepth 100000
set_option linter.unusedVariables false
set_option linter.unusedSimpArgs false
namespace Mine

section
variable {L : LI} {C C' : Circ} {k m : Nat} {sn : List Int} {hp : HP} {K : AV → HP → Prop} {n : Nat}

theorem put_ok {g1 r1 g2 r2 : Int} {D1 D2 : List Int} (B : BOk C sn) (hk : k + 6 ≤ 1000) (hg : C.gs.length ≤ 1000) (hs : sn.length ≤ 100) (A1 : AskOk C g1 r1 D1) (A2 : AskOk C g2 r2 D2) (hD1 : D1.length ≤ 20) (hD2 : D2.length ≤ 20)
    (s1 : ∀ x ∈ D1, x ∈ sn) (s2 : ∀ x ∈ D2, x ∈ sn) (hd : ∀ x ∈ D1, x ∉ D2)
    (hK : ∀ C' k' ext g r D, BOk C' (sn ++ ext) → C.gs <+: C'.gs → C'.gs.length ≤ C.gs.length + 10 → ext.length ≤ 1 → k' ≤ k + 3 → AskOk C' g r D → (∀ x ∈ D, x ∈ sn ++ ext) → D.length ≤ D1.length + D2.length + ext.length →
      K (.tup [.int g, .int r, .int D.length]) (putL L C' k' (sn ++ ext) hp)) :
    Call P (n + 7) "_law_put" [.ref L.f, cAV L.i, .ref L.s, .tup [.int g1, .int r1, .int D1.length], .tup [.int g2, .int r2, .int D2.length]] (putL L C k sn hp) K := by
  have room3 : ∀ {C1 : Circ}, C1.gs.length ≤ 2000 → C1.known.length ≤ C1.gs.length → room C1 3 := fun h1 h2 => ⟨by unfold SZ; exact Nat.le_trans (Nat.add_le_add_right h1 _) (by decide), by unfold SZ; exact Nat.le_trans (Nat.add_le_add_right (Nat.le_trans h2 h1) _) (by decide)⟩
  have n1 : 0 ≤ r1 ∧ r1 ≤ (2 : Int) ^ ((D1.length : Int)).toNat := by
    rw [A1.rows]
    have := cnt_le (xs := D1) (f := fun ρ => Lit C.gs ρ g1)
    rw [show ((D1.length : Int)).toNat = D1.length from rfl, pow_cast]
    exact ⟨Int.natCast_nonneg _, Int.ofNat_le.mpr this⟩
  have n2 : 0 ≤ r2 ∧ r2 ≤ (2 : Int) ^ ((D2.length : Int)).toNat := by
    rw [A2.rows]
    have := cnt_le (xs := D2) (f := fun ρ => Lit C.gs ρ g2)
    rw [show ((D2.length : Int)).toNat = D2.length from rfl, pow_cast]
    exact ⟨Int.natCast_nonneg _, Int.ofNat_le.mpr this⟩
  have hrows : ∀ way : Int, 0 ≤ way → rowsF way r1 ((2 : Int) ^ ((D1.length : Int)).toNat) r2 ((2 : Int) ^ ((D2.length : Int)).toNat) = (cnt (D1 ++ D2) (fun ρ => wayF way (Lit C.gs ρ g1) (Lit C.gs ρ g2)) : Nat) := fun way h0 => by
    rw [rowsF_ok A1.dep A2.dep hd h0, A1.rows, A2.rows]
    rw [show ((D1.length : Int)).toNat = D1.length from rfl, show ((D2.length : Int)).toNat = D2.length from rfl, pow_cast, pow_cast]
  have hnd : (D1 ++ D2).Nodup := by
    rw [List.nodup_append]
    exact ⟨A1.nd, A2.nd, fun a ha b hb e => hd a ha (e ▸ hb)⟩
  have hdepW : ∀ way : Int, Dep (fun ρ => wayF way (Lit C.gs ρ g1) (Lit C.gs ρ g2)) (D1 ++ D2) := fun way ρ ρ' e => by
    have e1 := A1.dep ρ ρ' fun x hx => e x (List.mem_append_left _ hx)
    have e2 := A2.dep ρ ρ' fun x hx => e x (List.mem_append_right _ hx)
    dsimp only at e1 e2 ⊢
    rw [e1, e2]
  refine call5 rfl ?_
  unfold b_law_put
  walk_at "go"
  refine drawL_ok (by decide) (by exact Nat.le_trans (Nat.le_add_right _ _) hk) fun way w0 w1 => ?_
  walk_at "go"
  have z0 : small 0 := by unfold small; exact by decide
  have z2 : small 2 := by unfold small; exact by decide
  by_cases hw : way < 4
  · refine g_dpos hw ?_
    have J := joined_sem (way := way) B.wc B.kl A1.li A2.li w0
    walk_at "go"
    refine g_gi (v := .int g1) rfl z0 ?_
    walk_at "go"
    refine g_gi (v := .int g2) rfl z0 ?_
    walk_at "go"
    refine joinedL (room3 (by exact Nat.le_trans hg (Nat.le_add_left _ _)) B.kl) ?_
    walk_at "go"
    refine rows_ok (by exact ⟨Int.natCast_nonneg _, Int.ofNat_le.mpr hD1⟩) (by exact ⟨Int.natCast_nonneg _, Int.ofNat_le.mpr hD2⟩) n1 n2 ?_
    rw [hrows way w0]
    walk_at "go"
    refine g_gi (v := .int D1.length) rfl z2 ?_
    walk_at "go"
    refine g_gi (v := .int D2.length) rfl z2 ?_
    walk_at "go"
    have := hK (joinedF C g1 g2 way).1 (k + 1) [] (joinedF C g1 g2 way).2 _ (D1 ++ D2) (by rw [List.append_nil]; exact B.grow J.grow) J.grow.pre (by have := J.grow.len; omega) (Nat.zero_le _) (by exact Nat.add_le_add_left (by decide) _)
      ⟨hnd, J.li, fun ρ ρ' e => by show Lit _ _ _ = Lit _ _ _; rw [J.sem, J.sem]; exact hdepW way ρ ρ' e, rfl⟩ (fun x hx => by
        rw [List.append_nil]
        rcases List.mem_append.mp hx with q | q
        · exact s1 x q
        · exact s2 x q) (by rw [List.length_append]; exact Nat.le_refl _)
    have ec : cnt (D1 ++ D2) (fun ρ => Lit (joinedF C g1 g2 way).1.gs ρ (joinedF C g1 g2 way).2) = cnt (D1 ++ D2) (fun ρ => wayF way (Lit C.gs ρ g1) (Lit C.gs ρ g2)) := cnt_congr fun ρ => J.sem ρ
    rw [ec, List.append_nil, List.length_append, Int.natCast_add] at this
    exact g_fin0 this
  · refine g_dneg hw ?_
    walk_at "go"
    refine drawL_ok (by decide) (by exact Nat.lt_of_le_of_lt (Nat.le_add_right _ _) hk) fun first f0 f1 => ?_
    walk_at "go"
    refine drawL_ok (by decide) (by exact Nat.lt_of_le_of_lt (Nat.add_le_add_left (by decide) _) hk) fun later t0 t1 => ?_
    walk_at "go"
    refine newInputL (by unfold SZ; exact Nat.le_trans (Nat.lt_succ_of_le hg) (Nat.le_add_left _ _)) ?_
    walk_at "go"
    have Ba := B.add
    have pa : C.gs <+: (addIn C).gs := List.prefix_append _ _
    have la : (addIn C).gs.length = C.gs.length + 1 := by show (C.gs ++ [("input", [])]).length = _; simp
    have hset : ∀ k, (putL L (addIn C) k sn hp).set L.s (.list (sn.map .int ++ [.int (C.gs.length : Int)])) = putL L (addIn C) k (sn ++ [(C.gs.length : Int)]) hp := fun k => by
      have e : AObj.list (sn.map .int ++ [.int (C.gs.length : Int)]) = seenO (sn ++ [(C.gs.length : Int)]) := by unfold seenO; simp
      rw [e]; exact putL_sets
    refine g_tappend putL_s ?_
    walk_at "go"
    refine g_append putL_s (by rw [List.length_map]; unfold SZ; exact Nat.le_trans hs (by decide)) ?_
    rw [hset]
    walk_at "go"
    have J1 := joined_sem (way := first) Ba.wc Ba.kl (A1.li.mono pa) (A2.li.mono pa) f0
    have pb := pa.trans J1.grow.pre
    have lb := J1.grow.len
    have J2 := joined_sem (way := later) J1.grow.wc J1.grow.kl (A1.li.mono pb) (A2.li.mono pb) t0
    have lc := J2.grow.len
    have gc := J1.grow.trans J2.grow
    have hget : (addIn C).gs[C.gs.length]? = some ("input", []) := by show (C.gs ++ [("input", [])])[_]? = _; simp
    have hpos : 2 ≤ C.gs.length := B.wc.wg.len
    have lc0 : lit (addIn C).gs (C.gs.length : Int) := ⟨by show 1 ≤ C.gs.length; exact Nat.le_of_lt hpos, get_lt hget⟩
    have J3 := choose_sem J2.grow.wc J2.grow.kl (lc0.mono gc.pre) (J1.li.mono J2.grow.pre) J2.li
    have gd := gc.trans J3.grow
    have ld := J3.grow.len
    refine g_gi (v := .int g1) rfl z0 ?_
    walk_at "go"
    refine g_gi (v := .int g2) rfl z0 ?_
    walk_at "go"
    refine joinedL (room3 (by omega) Ba.kl) ?_
    walk_at "go"
    refine g_gi (v := .int g1) rfl z0 ?_
    walk_at "go"
    refine g_gi (v := .int g2) rfl z0 ?_
    walk_at "go"
    refine joinedL (room3 (by omega) J1.grow.kl) ?_
    walk_at "go"
    refine chooseL (room3 (by omega) J2.grow.kl) ?_
    walk_at "go"
    refine rows_ok (by exact ⟨Int.natCast_nonneg _, Int.ofNat_le.mpr hD1⟩) (by exact ⟨Int.natCast_nonneg _, Int.ofNat_le.mpr hD2⟩) n1 n2 ?_
    walk_at "go"
    refine rows_ok (by exact ⟨Int.natCast_nonneg _, Int.ofNat_le.mpr hD1⟩) (by exact ⟨Int.natCast_nonneg _, Int.ofNat_le.mpr hD2⟩) n1 n2 ?_
    rw [hrows first f0, hrows later t0]
    walk_at "go"
    refine g_gi (v := .int D1.length) rfl z2 ?_
    walk_at "go"
    refine g_gi (v := .int D2.length) rfl z2 ?_
    walk_at "go"
    have hcs : (C.gs.length : Int) ∉ sn := fun h => by
      obtain ⟨q, e, hq⟩ := B.inp _ h
      have := get_lt hq; exact absurd this (Nat.not_lt_of_le (Nat.le_of_eq (Int.ofNat.inj e)))
    have hcD : (C.gs.length : Int) ∉ D1 ++ D2 := fun h => by
      rcases List.mem_append.mp h with q | q
      · exact hcs (s1 _ q)
      · exact hcs (s2 _ q)
    have sem : ∀ ρ, Lit (chooseF (joinedF (joinedF (addIn C) g1 g2 first).1 g1 g2 later).1 (C.gs.length : Int) (joinedF (addIn C) g1 g2 first).2 (joinedF (joinedF (addIn C) g1 g2 first).1 g1 g2 later).2).1.gs ρ
        (chooseF (joinedF (joinedF (addIn C) g1 g2 first).1 g1 g2 later).1 (C.gs.length : Int) (joinedF (addIn C) g1 g2 first).2 (joinedF (joinedF (addIn C) g1 g2 first).1 g1 g2 later).2).2 =
        if ρ (C.gs.length : Int) then wayF first (Lit C.gs ρ g1) (Lit C.gs ρ g2) else wayF later (Lit C.gs ρ g1) (Lit C.gs ρ g2) := fun ρ => by
      rw [J3.sem, Lit_stable gc.pre lc0, lit_input Ba.wc.wg hget (by exact Nat.le_of_lt hpos), Lit_stable J2.grow.pre J1.li, J1.sem, J2.sem, Lit_stable pa A1.li, Lit_stable pa A2.li, Lit_stable pb A1.li, Lit_stable pb A2.li]
    have := hK _ (k + 1 + 1 + 1) [(C.gs.length : Int)] _ _ ((C.gs.length : Int) :: (D1 ++ D2)) (Ba.grow gd) (pa.trans gd.pre) (by omega) (Nat.le_refl _) (Nat.le_refl _)
      ⟨List.nodup_cons.mpr ⟨hcD, hnd⟩, J3.li, fun ρ ρ' e => by
        show Lit _ _ _ = Lit _ _ _
        rw [sem, sem, e _ List.mem_cons_self]
        have e1 := hdepW first ρ ρ' fun x hx => e x (List.mem_cons_of_mem _ hx)
        have e2 := hdepW later ρ ρ' fun x hx => e x (List.mem_cons_of_mem _ hx)
        dsimp only at e1 e2
        rw [e1, e2], rfl⟩ (fun x hx => by
          rcases List.mem_cons.mp hx with q | q
          · rw [q]; exact List.mem_append_right _ List.mem_cons_self
          · rcases List.mem_append.mp q with q | q
            · exact List.mem_append_left _ (s1 x q)
            · exact List.mem_append_left _ (s2 x q)) (by rw [List.length_cons, List.length_append]; exact Nat.le_refl _)
    have ec : cnt ((C.gs.length : Int) :: (D1 ++ D2)) (fun ρ => Lit (chooseF (joinedF (joinedF (addIn C) g1 g2 first).1 g1 g2 later).1 (C.gs.length : Int) (joinedF (addIn C) g1 g2 first).2 (joinedF (joinedF (addIn C) g1 g2 first).1 g1 g2 later).2).1.gs ρ
        (chooseF (joinedF (joinedF (addIn C) g1 g2 first).1 g1 g2 later).1 (C.gs.length : Int) (joinedF (addIn C) g1 g2 first).2 (joinedF (joinedF (addIn C) g1 g2 first).1 g1 g2 later).2).2) =
        cnt (D1 ++ D2) (fun ρ => wayF first (Lit C.gs ρ g1) (Lit C.gs ρ g2)) + cnt (D1 ++ D2) (fun ρ => wayF later (Lit C.gs ρ g1) (Lit C.gs ρ g2)) := by
      rw [Nat.add_comm]
      show cnt (D1 ++ D2) _ + cnt (D1 ++ D2) _ = _
      congr 1
      · refine cnt_congr fun ρ => ?_
        dsimp only
        rw [sem, upd_self, if_neg (by simp)]
        exact (hdepW later).upd hcD
      · refine cnt_congr fun ρ => ?_
        dsimp only
        rw [sem, upd_self, if_pos rfl]
        exact (hdepW first).upd hcD
    rw [ec, List.length_cons, List.length_append, Int.natCast_add, Int.natCast_add, Int.natCast_add] at this
    exact g_fin0 this
end
end Mine
end
section
set_option Elab.async false
set_option maxRecDepth 100000
set_option linter.unusedVariables false
set_option linter.unusedSimpArgs false
namespace Mine

section
variable {hp : HP} {K : AV → HP → Prop} {n : Nat} {a d : Nat}

theorem set_none {h : HP} {a b : Nat} {o : AObj} (e : (h.set a o) b = none) : b ≠ a ∧ h b = none := by
  have h1 : b ≠ a := fun q => by subst q; rw [HP.set_self] at e; cases e
  exact ⟨h1, by rw [HP.set_ne h1] at e; exact e⟩
theorem del_back {h : HP} {a d : Nat} {o o' : AObj} (ha : h a = none) (hd : h d = none) : (((h.set d o).set a o').del a).del d = h := by
  funext b
  unfold HP.del HP.set
  by_cases h1 : b = d
  · subst h1; simp [hd]
  · by_cases h2 : b = a
    · subst h2; simp [h1, ha]
    · simp [h1, h2]

theorem g_setAttr {CC : CallSem} {e o : E} {nm : String} {loc : Loc} {KF : Fl → Loc → HP → Prop} (h : wpE CC e loc hp fun v hp1 => wpE CC o loc hp1 fun ov hp2 => ∃ a Cn d at_, ov = .ref a ∧ hp2 a = some (.inst Cn d) ∧ hp2 d = some (.attrs at_) ∧ at_.length ≤ 100 ∧ KF .next loc (hp2.set d (.attrs (aPut at_ nm v)))) : wpS CC (.setAttr o nm e) loc hp KF := h
theorem init_val {H : HP} {Cn nm : String} {at_ : List (String × AV)} {v : AV} {KN : HP → Prop} (had : a ≠ d) (hl : at_.length ≤ 100) (k : KN ((H.set d (.attrs (aPut at_ nm v))).set a (.inst Cn d))) :
    ∃ a' C' d' at', AV.ref a = .ref a' ∧ ((H.set d (.attrs at_)).set a (.inst Cn d)) a' = some (.inst C' d') ∧ ((H.set d (.attrs at_)).set a (.inst Cn d)) d' = some (.attrs at') ∧ at'.length ≤ 100 ∧ KN (((H.set d (.attrs at_)).set a (.inst Cn d)).set d' (.attrs (aPut at' nm v))) :=
  ⟨a, Cn, d, at_, rfl, HP.set_self, by rw [HP.set_ne (Ne.symm had), HP.set_self], hl, by rw [set_comm had, set_set]; exact k⟩
theorem init_ref {H : HP} {Cn nm : String} {at_ : List (String × AV)} {v : AV} {x : Nat} {o : AObj} {KN : HP → Prop} (had : a ≠ d) (hl : at_.length ≤ 100) (hx : ((H.set d (.attrs at_)).set a (.inst Cn d)) x = none)
    (k : x ≠ a → x ≠ d → H x = none → KN (((H.set x o).set d (.attrs (aPut at_ nm v))).set a (.inst Cn d))) :
    ∃ a' C' d' at', AV.ref a = .ref a' ∧ (((H.set d (.attrs at_)).set a (.inst Cn d)).set x o) a' = some (.inst C' d') ∧ (((H.set d (.attrs at_)).set a (.inst Cn d)).set x o) d' = some (.attrs at') ∧ at'.length ≤ 100 ∧ KN ((((H.set d (.attrs at_)).set a (.inst Cn d)).set x o).set d' (.attrs (aPut at' nm v))) := by
  obtain ⟨xa, hx⟩ := set_none hx
  obtain ⟨xd, hx⟩ := set_none hx
  rw [set_comm (Ne.symm xa), set_comm (Ne.symm xd)]
  exact init_val had hl (k xa xd hx)

noncomputable def C0 : Circ := ⟨[("", []), ("true", [])], []⟩
noncomputable def cAt (i : CI) : List (String × AV) := [("kinds", .ref i.a1), ("parts_now", .ref i.a2), ("known", .ref i.a3)]
theorem circ_init (had : a ≠ d) (hK : ∀ i : CI, hp i.a1 = none → hp i.a2 = none → hp i.a3 = none → a ≠ i.a1 ∧ a ≠ i.a2 ∧ a ≠ i.a3 → d ≠ i.a1 ∧ d ≠ i.a2 ∧ d ≠ i.a3 → K .none (((putC i C0 hp).set d (.attrs (cAt i))).set a (.inst "Circuit" d))) :
    Call P (n + 1) "Circuit.__init__" [.ref a] ((hp.set d (.attrs [])).set a (.inst "Circuit" d)) K := by
  refine call1 rfl ?_
  unfold b_Circuit_init
  walk_at "go"
  refine g_setAttr ?_
  walk_at "go"
  intro x hx
  walk_at "go"
  refine init_ref had (Nat.le_of_ble_eq_true rfl) hx fun xa xd hx => ?_
  walk_at "go"
  refine g_setAttr ?_
  walk_at "go"
  intro y hy
  walk_at "go"
  refine init_ref had (Nat.le_of_ble_eq_true rfl) hy fun ya yd hy => ?_
  walk_at "go"
  refine g_setAttr ?_
  walk_at "go"
  refine g_dict0 fun z hz => ?_
  walk_at "go"
  refine init_ref had (Nat.le_of_ble_eq_true rfl) hz fun za zd hz => ?_
  walk_at "go"
  obtain ⟨yx, hy⟩ := set_none hy
  obtain ⟨zy, hz⟩ := set_none hz
  obtain ⟨zx, hz⟩ := set_none hz
  exact ⟨_, HP.Sub.refl _, hK ⟨x, y, z, Ne.symm yx, Ne.symm zx, Ne.symm zy⟩ hx hy hz ⟨Ne.symm xa, Ne.symm ya, Ne.symm za⟩ ⟨Ne.symm xd, Ne.symm yd, Ne.symm zd⟩⟩

noncomputable def S0 : Tabs := ⟨[], [], []⟩
noncomputable def sAt (j : SI) : List (String × AV) := [("circuit", cAV j.i), ("inputs", .tup (j.ins.map .int)), ("known", .ref j.b1), ("plans", .ref j.b2), ("supports", .ref j.b3)]
theorem count_init {i : CI} {C : Circ} {s : Nat} {sn : List Int} (had : a ≠ d) (has : a ≠ s) (hds : d ≠ s) (ha : putC i C hp a = none) (hd : putC i C hp d = none) (hs : putC i C hp s = some (.list (sn.map .int))) (hl : sn.length ≤ SZ)
    (hK : ∀ j : SI, j.i = i → j.ins = sn → Free j a → Free j d → hp j.b1 = none → hp j.b2 = none → hp j.b3 = none → K .none (((putS j C S0 hp).set d (.attrs (sAt j))).set a (.inst "Counter" d))) :
    Call P (n + 1) "Counter.__init__" [.ref a, cAV i, .ref s] (((putC i C hp).set d (.attrs [])).set a (.inst "Counter" d)) K := by
  obtain ⟨fa1, fa2, fa3, ha'⟩ := putC_fresh ha
  obtain ⟨fd1, fd2, fd3, hd'⟩ := putC_fresh hd
  refine call3 rfl ?_
  unfold b_Counter_init
  walk_at "go"
  refine g_setAttr ?_
  walk_at "go"
  refine init_val had (Nat.zero_le _) ?_
  walk_at "go"
  refine g_setAttr ?_
  walk_at "go"
  refine g_tuple (xs := sn.map .int) (al_r (by rw [HP.set_ne (Ne.symm has), HP.set_ne (Ne.symm hds)]; exact hs)) (by rw [List.length_map]; exact hl) ?_
  walk_at "go"
  refine init_val had (Nat.le_of_ble_eq_true rfl) ?_
  walk_at "go"
  refine g_setAttr ?_
  walk_at "go"
  refine g_dict0 fun x hx => ?_
  walk_at "go"
  refine init_ref had (Nat.le_of_ble_eq_true rfl) hx fun xa xd hx => ?_
  walk_at "go"
  refine g_setAttr ?_
  walk_at "go"
  refine g_dict0 fun y hy => ?_
  walk_at "go"
  refine init_ref had (Nat.le_of_ble_eq_true rfl) hy fun ya yd hy => ?_
  walk_at "go"
  refine g_setAttr ?_
  walk_at "go"
  refine g_dict0 fun z hz => ?_
  walk_at "go"
  refine init_ref had (Nat.le_of_ble_eq_true rfl) hz fun za zd hz => ?_
  walk_at "go"
  obtain ⟨x1, x2, x3, hx⟩ := putC_fresh hx
  obtain ⟨yx, hy⟩ := set_none hy
  obtain ⟨y1, y2, y3, hy⟩ := putC_fresh hy
  obtain ⟨zy, hz⟩ := set_none hz
  obtain ⟨zx, hz⟩ := set_none hz
  obtain ⟨z1, z2, z3, hz⟩ := putC_fresh hz
  have e : (((putC i C hp).set x (.dI [])).set y (.dI [])).set z (.dI []) = putC i C (((hp.set x (.dI [])).set y (.dI [])).set z (.dI [])) := by rw [putC_comm x1 x2 x3, putC_comm y1 y2 y3, putC_comm z1 z2 z3]
  have := hK ⟨i, x, y, z, sn, Ne.symm yx, Ne.symm zx, Ne.symm zy, ⟨x1, x2, x3⟩, ⟨y1, y2, y3⟩, ⟨z1, z2, z3⟩⟩ rfl rfl ⟨fa1, fa2, fa3, Ne.symm xa, Ne.symm ya, Ne.symm za⟩ ⟨fd1, fd2, fd3, Ne.symm xd, Ne.symm yd, Ne.symm zd⟩ hx hy hz
  refine ⟨_, HP.Sub.refl _, ?_⟩
  refine Eq.mp ?_ this
  show K .none (((putC i C (((hp.set x (.dI [])).set y (.dI [])).set z (.dI []))).set d _).set a _) = K .none (((((((putC i C hp).set x (.dI [])).set y (.dI [])).set z (.dI []))).set d _).set a _)
  rw [e]; rfl
end
end Mine
end
section
set_option Elab.async false
set_option maxRecDepth 100000
set_option linter.unusedVariables false
set_option linter.unusedSimpArgs false
namespace Mine
/-! the law's statements one by one; printed by gen20.py -/
noncomputable def law_s1 : S := (.assign "feed" (.dictS ["cells", "count", "blend"] (.cons (.upto (.var "script") (.int 48)) (.cons (.int 0) (.cons (.bi .sum (.cons (.comp (.bin .mod (.bi .abs (.cons (.var "cell") .nil)) (.int 89)) (.nm "cell") (.upto (.var "script") (.int 48))) .nil)) .nil)))))
noncomputable def law_s2 : S := (.assigns ["circuit", "seen"] (.tup (.cons (.new "Circuit" .nil) (.cons (.list .nil) .nil))))
noncomputable def law_s3 : S := (.freeze "circuit")
noncomputable def law_s4 : S := (.assigns ["blocks", "idle"] (.tup (.cons (.bin .add (.int 2) (.call "_law_draw" (.cons (.var "feed") (.cons (.int 2) .nil)))) (.cons (.call "_law_draw" (.cons (.var "feed") (.cons (.int 3) .nil))) .nil))))
noncomputable def law_s5 : S := (.assign "most" (.ite (.cmp .eq (.var "blocks") (.int 2)) (.int 3) (.int 2)))
noncomputable def law_s6 : S := (.assign "asked" (.list (.cons (.tup (.cons (.int 1) (.cons (.int 1) (.cons (.int 0) .nil)))) (.cons (.call "_law_block" (.cons (.var "feed") (.cons (.var "circuit") (.cons (.var "seen") (.cons (.var "most") .nil))))) .nil))))
noncomputable def law_s7 : S := (.assign "whole" (.idx (.var "asked") (.int 1)))
noncomputable def law_s8a : S := (.iff (.cmp .le (.var "k") (.var "idle")) (.cons (.expr (.lm (.var "seen") .append (.cons (.meth (.var "circuit") "new_input" .nil) .nil))) .nil) .nil)
noncomputable def law_s8b : S := (.expr (.lm (.var "asked") .append (.cons (.call "_law_block" (.cons (.var "feed") (.cons (.var "circuit") (.cons (.var "seen") (.cons (.var "most") .nil))))) .nil)))
noncomputable def law_s8c : S := (.assign "whole" (.call "_law_put" (.cons (.var "feed") (.cons (.var "circuit") (.cons (.var "seen") (.cons (.var "whole") (.cons (.idx (.var "asked") (.neg (.int 1))) .nil)))))))
noncomputable def law_s8d : S := (.expr (.lm (.var "asked") .append (.cons (.var "whole") .nil)))
noncomputable def law_b8 : Ss := (.cons law_s8a (.cons law_s8b (.cons law_s8c (.cons law_s8d .nil))))
noncomputable def law_s8 : S := .for_ (.nm "k") (.bi .range (.cons (.int 1) (.cons (.var "blocks") .nil))) law_b8
noncomputable def law_s9 : S := (.assign "counter" (.new "Counter" (.cons (.var "circuit") (.cons (.var "seen") .nil))))
noncomputable def law_s10 : S := (.freeze "counter")
noncomputable def law_s11a : S := (.assigns ["gate", "rows", "wide"] (.ite (.cmp .eq (.var "lap") (.int 3)) (.idx (.var "asked") (.neg (.int 1))) (.idx (.var "asked") (.call "_law_draw" (.cons (.var "feed") (.cons (.bi .len (.cons (.var "asked") .nil)) .nil))))))
noncomputable def law_s11b : S := (.assign "told" (.ite (.cmp .eq (.call "_law_draw" (.cons (.var "feed") (.cons (.int 2) .nil))) (.int 0)) (.flist (.cons (.meth (.var "counter") "count" (.cons (.var "gate") .nil)) (.cons (.meth (.var "counter") "count" (.cons (.bin .sub (.int 0) (.var "gate")) .nil)) .nil))) (.rev (.flist (.cons (.meth (.var "counter") "count" (.cons (.bin .sub (.int 0) (.var "gate")) .nil)) (.cons (.meth (.var "counter") "count" (.cons (.var "gate") .nil)) .nil))))))
noncomputable def law_s11c : S := (.iff (.cmp .ne (.var "told") (.flist (.cons (.bin .mul (.var "rows") (.bin .pow (.int 2) (.bin .sub (.bi .len (.cons (.var "seen") .nil)) (.var "wide")))) (.cons (.bin .mul (.bin .sub (.bin .pow (.int 2) (.var "wide")) (.var "rows")) (.bin .pow (.int 2) (.bin .sub (.bi .len (.cons (.var "seen") .nil)) (.var "wide")))) .nil)))) (.cons (.ret (.bool false)) .nil) .nil)
noncomputable def law_b11 : Ss := (.cons law_s11a (.cons law_s11b (.cons law_s11c .nil)))
noncomputable def law_s11 : S := .for_ (.nm "lap") (.bi .range (.cons (.int 7) .nil)) law_b11
noncomputable def law_s12 : S := (.ret (.bool true))
theorem b_law_eq : b_law = (.cons law_s1 (.cons law_s2 (.cons law_s3 (.cons law_s4 (.cons law_s5 (.cons law_s6 (.cons law_s7 (.cons law_s8 (.cons law_s9 (.cons law_s10 (.cons law_s11 (.cons law_s12 .nil)))))))))))) := rfl
end Mine
end
section
set_option Elab.async false
set_option maxRecDepth 100000
set_option linter.unusedVariables false
set_option linter.unusedSimpArgs false
namespace Mine

structure LV (l : Loc) (L : LI) : Prop where
  feed : l "feed" = some (.ref L.f)
  circuit : l "circuit" = some (cAV L.i)
  seen : l "seen" = some (.ref L.s)

section
variable {n : Nat} {K : Fl → Loc → HP → Prop} {tail : Ss}

theorem blend_bound : ∀ {l : List Int}, 0 ≤ (l.map fun c => ((c.natAbs : Int) % 89)).sum ∧ (l.map fun c => ((c.natAbs : Int) % 89)).sum ≤ 88 * l.length
  | [] => by simp
  | a :: l => by
    have ih := blend_bound (l := l)
    have h1 := Int.emod_nonneg (a.natAbs : Int) (show (89 : Int) ≠ 0 by exact by decide)
    have h2 := Int.emod_lt_of_pos (a.natAbs : Int) (show (0 : Int) < 89 by exact Int.natCast_nonneg _)
    simp only [List.map_cons, List.sum_cons, List.length_cons]
    exact ⟨Int.add_nonneg h1 ih.1, Int.le_trans (Int.add_le_add (Int.le_of_lt_add_one (b := 88) h2) ih.2) (Int.le_of_eq (by rw [Int.natCast_add, Int.mul_add, Int.add_comm]; rfl))⟩

theorem g_dictS {CC : CallSem} {loc : Loc} {hp : HP} {K : AV → HP → Prop} {ks : List String} {vs : Es} (h : wpEs CC vs loc hp fun ws hp1 => ws.length = ks.length ∧ ks.Nodup ∧ ks.length ≤ 10 ∧ ∀ a, hp1 a = Option.none → K (.ref a) (hp1.set a (.dS (ks.zip ws)))) : wpE CC (.dictS ks vs) loc hp K := h
theorem g_upto {CC : CallSem} {loc : Loc} {hp : HP} {K : AV → HP → Prop} {e hi : E} (h : wpE CC e loc hp fun o hp1 => wpE CC hi loc hp1 fun j hp2 => ∃ xs n, asList o hp2 = some xs ∧ j = .int n ∧ 0 ≤ n ∧ small n ∧ xs.length ≤ SZ ∧ K (.fl (xs.take n.toNat)) hp2) : wpE CC (.upto e hi) loc hp K := h
theorem g_new {CC : CallSem} {loc : Loc} {hp : HP} {K : AV → HP → Prop} {Cn : String} {args : Es} (h : wpEs CC args loc hp fun vs hp1 => ∀ a d, hp1 a = Option.none → hp1 d = Option.none → a ≠ d → CC (Cn ++ ".__init__") (.ref a :: vs) ((hp1.set d (.attrs [])).set a (.inst Cn d)) fun v hp2 => v = .none ∧ K (.ref a) hp2) : wpE CC (.new Cn args) loc hp K := h
theorem iteM {CC : CallSem} {loc : Loc} {hp : HP} {K : AV → HP → Prop} {e e1 : E} {b : Bool} (Pp : Nat → Prop) (h1 : b = true → (∀ m : Nat, Pp m → K (.int m) hp) → wpE CC e loc hp K) (h2 : b = false → (∀ m : Nat, Pp m → K (.int m) hp) → wpE CC e1 loc hp K) (h : ∀ m : Nat, Pp m → K (.int m) hp) :
    if b = true then wpE CC e loc hp K else wpE CC e1 loc hp K := by
  cases b with
  | true => exact g_pos rfl (h1 rfl h)
  | false => exact g_nega rfl (h2 rfl h)
theorem start_ok {is : List Int} (hlen : is.length ≤ 63) (h : ∀ (L : LI) l, LV l L → wpB (Call P (n + 1)) tail l (putL L C0 0 [] (fun _ => none)) K) :
    wpB (Call P (n + 1)) (.cons law_s1 (.cons law_s2 (.cons law_s3 tail))) (setAll (fun _ => none) ["script"] [.fl (is.map .int)]) (fun _ => none) K := by
  have z48 : small 48 := by unfold small; exact by decide
  have hli : (is.map AV.int).length ≤ SZ := by rw [List.length_map]; unfold SZ; exact Nat.le_trans hlen (by decide)
  have ht : (is.map AV.int).take (48 : Int).toNat = (is.take 48).map .int := List.map_take.symm
  show wpB _ _ (Loc.set (fun _ => none) "script" (.fl (is.map .int))) _ _
  unfold law_s1 law_s2 law_s3
  walk_at "go"
  refine g_dictS ?_
  walk_at "go"
  refine g_upto ?_
  walk_at "go"
  refine ⟨_, 48, al_fl, rfl, by decide, z48, hli, ?_⟩
  rw [ht]
  walk_at "go"
  refine g_upto ?_
  walk_at "go"
  refine ⟨_, 48, al_fl, rfl, by decide, z48, hli, ?_⟩
  rw [ht]
  walk_at "go"
  refine ⟨_, rfl, by rw [List.length_map, List.length_take]; unfold SZ; exact Nat.le_trans (Nat.min_le_left _ _) (by decide), ?_⟩
  refine wpComp_pure (f := fun c : Int => AV.int ((c.natAbs : Int) % 89)) (fun c _ => ⟨_, rfl, fun K hK => ?_⟩) ?_
  · walk_at "go"
    refine g_mod (by decide) ?_
    walk_at "go"
    exact hK
  walk_at "go"
  refine g_sum (is := (is.take 48).map fun c => ((c.natAbs : Int) % 89)) al_fl ?_ ?_
  · rw [← intsOf_map, List.map_map]; rfl
  walk_at "go"
  refine ⟨rfl, by decide, by decide, fun f _ => ?_⟩
  have ef : AObj.dS (["cells", "count", "blend"].zip [AV.fl ((is.take 48).map .int), AV.int 0, AV.int ((is.take 48).map fun c : Int => (c.natAbs : Int) % 89).sum]) =
      feedO (is.take 48) ((is.take 48).map fun c : Int => (c.natAbs : Int) % 89).sum 0 := rfl
  rw [ef]
  walk_at "go"
  refine g_new ?_
  walk_at "go"
  intro a d ha hd had
  obtain ⟨af, _⟩ := set_none ha
  obtain ⟨df, _⟩ := set_none hd
  refine circ_init had fun i hi1 hi2 hi3 hia hid => ⟨rfl, ?_⟩
  walk_at "go"
  intro s hs
  obtain ⟨sa, hs⟩ := set_none hs
  obtain ⟨sd, hs⟩ := set_none hs
  obtain ⟨s1, s2, s3, hs⟩ := putC_fresh hs
  obtain ⟨sf, _⟩ := set_none hs
  obtain ⟨f1, _⟩ := set_none hi1
  obtain ⟨f2, _⟩ := set_none hi2
  obtain ⟨f3, _⟩ := set_none hi3
  have hbl := blend_bound (l := is.take 48)
  have htl : (is.take 48).length ≤ 48 := by rw [List.length_take]; exact Nat.min_le_left _ _
  walk_at "go"
  refine g_frzI (a := a) (d := d) (Cn := "Circuit") (at_ := cAt i) (by walk_at "lk") (by rw [HP.set_ne (Ne.symm sa), HP.set_self]) (by rw [HP.set_ne (Ne.symm sd), HP.set_ne (Ne.symm had), HP.set_self]) ?_
  have hheap : ((((((putC i C0 (HP.set (fun _ => none) f (feedO (is.take 48) ((is.take 48).map fun c : Int => (c.natAbs : Int) % 89).sum 0))).set d (.attrs (cAt i))).set a (.inst "Circuit" d)).set s (.list [])).del a).del d) =
      putL ⟨i, f, s, Ne.symm sf, ⟨Ne.symm f1, Ne.symm f2, Ne.symm f3⟩, ⟨s1, s2, s3⟩, is.take 48, ((is.take 48).map fun c : Int => (c.natAbs : Int) % 89).sum, htl, hbl.1, Int.le_trans hbl.2 (Int.le_trans (Int.mul_le_mul_of_nonneg_left (Int.ofNat_le.mpr htl) (by decide)) (by decide))⟩ C0 0 [] (fun _ => none) := by
    rw [set_comm (Ne.symm sa), set_comm (Ne.symm sd), putC_comm s1 s2 s3, del_back]
    · rfl
    · rw [putC_ne hia, HP.set_ne (Ne.symm sa), HP.set_ne af]
    · rw [putC_ne hid, HP.set_ne (Ne.symm sd), HP.set_ne df]
  rw [hheap]
  walk_at "go"
  exact h _ _ ⟨by walk_at "lk", by walk_at "lk", by walk_at "lk"⟩

/-- what was asked for -/
structure Ask where
  g : Int
  r : Int
  D : List Int
noncomputable def askV (a : Ask) : AV := .tup [.int a.g, .int a.r, .int a.D.length]
noncomputable def askO (A : List Ask) : AObj := .list (A.map askV)
structure AskIn (C : Circ) (sn : List Int) (a : Ask) : Prop where
  ok : AskOk C a.g a.r a.D
  sub : ∀ x ∈ a.D, x ∈ sn
structure FL (L : LI) (q : Nat) : Prop where
  c : q ≠ L.i.a1 ∧ q ≠ L.i.a2 ∧ q ≠ L.i.a3
  f : q ≠ L.f
  s : q ≠ L.s
theorem putL_fresh {L : LI} {C : Circ} {k : Nat} {sn : List Int} {hp : HP} {q : Nat} (h : putL L C k sn hp q = none) : FL L q ∧ hp q = none := by
  obtain ⟨h1, h2, h3, h⟩ := putC_fresh h
  obtain ⟨h4, h⟩ := set_none h
  obtain ⟨h5, h⟩ := set_none h
  exact ⟨⟨⟨h1, h2, h3⟩, h5, h4⟩, h⟩
theorem putL_comm {L : LI} {C : Circ} {k : Nat} {sn : List Int} {hp : HP} {q : Nat} {o : AObj} (h : FL L q) : (putL L C k sn hp).set q o = putL L C k sn (hp.set q o) := by
  unfold putL
  rw [putC_comm h.c.1 h.c.2.1 h.c.2.2, set_comm (Ne.symm h.s), set_comm (Ne.symm h.f)]
theorem putL_get {L : LI} {C : Circ} {k : Nat} {sn : List Int} {hp : HP} {q : Nat} (h : FL L q) : putL L C k sn hp q = hp q := by
  unfold putL
  rw [putC_ne h.c, HP.set_ne h.s, HP.set_ne h.f]

theorem C0_ok : BOk C0 [] := by
  refine ⟨⟨⟨rfl, rfl, fun i g h hi => ?_⟩, fun ks v h => by (cases h)⟩, by decide, List.nodup_nil, fun x h => by (cases h), fun n ps h => ?_⟩
  · have := get_lt h
    simp [C0] at this; exact absurd this (Nat.not_lt_of_le hi)
  · have := get_lt h
    simp [C0] at this
    have : n = 0 ∨ n = 1 := Nat.le_one_iff_eq_zero_or_eq_one.mp (Nat.le_of_lt_succ this)
    rcases this with rfl | rfl <;> simp [C0] at h
theorem one_ask {C : Circ} {sn : List Int} (b : BOk C sn) : AskIn C sn ⟨1, 1, []⟩ := by
  refine ⟨⟨List.nodup_nil, lit_one b.wc.wg, fun ρ ρ' _ => ?_, ?_⟩, fun x h => by (cases h)⟩
  · show Lit _ _ 1 = Lit _ _ 1
    rw [Lit_one b.wc.wg, Lit_one b.wc.wg]
  · simp [cnt, Lit_one b.wc.wg]

theorem setup_ok {L : LI} {l : Loc} (hv : LV l L) (hK : ∀ (nb m : Nat) (idle : Int) q (C : Circ) k sn a l', ((nb = 2 ∧ m = 3) ∨ (nb = 3 ∧ m = 2)) → LV l' L → l' "blocks" = some (.int nb) → l' "idle" = some (.int idle) → l' "most" = some (.int m) → l' "asked" = some (.ref q) → l' "whole" = some (askV a) → FL L q →
      BOk C sn → C.gs.length ≤ 2 + m + 3 * (m - 1) → sn.length ≤ m → k ≤ 7 → AskIn C sn a → wpB (Call P (n + 7)) tail l' (putL L C k sn (HP.set (fun _ => none) q (askO [⟨1, 1, []⟩, a]))) K) :
    wpB (Call P (n + 7)) (.cons law_s4 (.cons law_s5 (.cons law_s6 (.cons law_s7 tail)))) l (putL L C0 0 [] (fun _ => none)) K := by
  obtain ⟨l1, l2, l3⟩ := hv
  unfold law_s4 law_s5 law_s6 law_s7
  walk_at "go"
  refine drawL_ok (by decide) (by decide) fun d d0 d1 => ?_
  walk_at "go"
  refine drawL_ok (by decide) (by decide) fun idle i0 i1 => ?_
  walk_at "go"
  refine iteM (fun m => (d = 0 ∧ m = 3) ∨ (d = 1 ∧ m = 2)) (fun e h => ?_) (fun e h => ?_) fun m hm => ?_
  · have e := of_decide_eq_true e
    refine g_int ?_
    exact h 3 (.inl ⟨by exact Int.add_left_cancel e, rfl⟩)
  · have e := of_decide_eq_false e
    refine g_int ?_
    exact h 2 (.inr ⟨Int.le_antisymm (Int.le_of_lt_add_one (b := 1) d1) (Int.lt_iff_le_and_ne.mpr ⟨d0, fun h => e (by rw [← h]; rfl)⟩), rfl⟩)
  obtain ⟨nb, hnb, hnm⟩ : ∃ nb : Nat, 2 + d = nb ∧ ((nb = 2 ∧ m = 3) ∨ (nb = 3 ∧ m = 2)) := by
    rcases hm with ⟨rfl, e⟩ | ⟨rfl, e⟩
    · exact ⟨2, rfl, .inl ⟨rfl, e⟩⟩
    · exact ⟨3, rfl, .inr ⟨rfl, e⟩⟩
  clear hm d0 d1 i0 i1
  rw [hnb]
  walk_at "go"
  refine block_ok (by rcases hnm with ⟨_, rfl⟩ | ⟨_, rfl⟩ <;> decide) C0_ok (by decide) (by decide) (Nat.zero_le _) fun C k own g r hB hpre hlen hown1 hown2 hk hask => ?_
  walk_at "go"
  intro q hq
  obtain ⟨fq, _⟩ := putL_fresh hq
  have hheap : (putL L C k ([] ++ own) (fun _ => none)).set q (.list [.tup [.int 1, .int 1, .int 0], .tup [.int g, .int r, .int own.length]]) = putL L C k own (HP.set (fun _ => none) q (askO [⟨1, 1, []⟩, ⟨g, r, own⟩])) := by
    rw [putL_comm fq]; rfl
  rw [hheap]
  have hq1 : putL L C k own (HP.set (fun _ => none) q (askO [⟨1, 1, []⟩, ⟨g, r, own⟩])) q = some (.list [askV ⟨1, 1, []⟩, askV ⟨g, r, own⟩]) := by rw [putL_get fq, HP.set_self]; rfl
  walk_at "go"
  refine g_gi (v := askV ⟨g, r, own⟩) ((ix_rl hq1).trans rfl) (by unfold small; exact by decide) ?_
  walk_at "go"
  have hc0 : C0.gs.length = 2 := rfl
  exact hK nb m idle q C k own ⟨g, r, own⟩ _ hnm ⟨by walk_at "lk", by walk_at "lk", by walk_at "lk"⟩ (by walk_at "lk") (by walk_at "lk") (by walk_at "lk") (by walk_at "lk") (by walk_at "lk") fq hB (Nat.le_trans hlen (Nat.add_le_add (Nat.add_le_add_left (Int.ofNat_le.mp hown1) _) (Nat.mul_le_mul_left 3 (Nat.sub_le_sub_right (Int.ofNat_le.mp hown1) 1)))) (by exact Int.ofNat_le.mp hown1) (Nat.le_trans hk (by decide)) ⟨hask, fun x hx => hx⟩
end
end Mine
end
section
set_option Elab.async false
set_option maxRecDepth 100000
set_option linter.unusedVariables false
set_option linter.unusedSimpArgs false
namespace Mine

noncomputable def law_r8 : Ss := (.cons law_s8b (.cons law_s8c (.cons law_s8d .nil)))
theorem law_b8_eq : law_b8 = .cons law_s8a law_r8 := rfl

section
variable {n : Nat} {K : Fl → Loc → HP → Prop} {tail : Ss} {L : LI} {q : Nat}

theorem AskIn.mono {C C' : Circ} {sn sn' : List Int} {a : Ask} (x : AskIn C sn a) (h : C.gs <+: C'.gs) (hs : ∀ y ∈ sn, y ∈ sn') : AskIn C' sn' a := ⟨x.ok.mono h, fun y hy => hs y (x.sub y hy)⟩
theorem askO_get {C : Circ} {k : Nat} {sn : List Int} {A : List Ask} (fq : FL L q) : putL L C k sn (HP.set (fun _ => none) q (askO A)) q = some (.list (A.map askV)) := by
  rw [putL_get fq, HP.set_self]; rfl
theorem askO_set {C : Circ} {k : Nat} {sn : List Int} {A : List Ask} {a : Ask} (fq : FL L q) : (putL L C k sn (HP.set (fun _ => none) q (askO A))).set q (.list (A.map askV ++ [askV a])) = putL L C k sn (HP.set (fun _ => none) q (askO (A ++ [a]))) := by
  rw [putL_comm fq, set_set]; unfold askO; simp

theorem r8_ok {l : Loc} {m : Nat} {C : Circ} {k : Nat} {sn : List Int} {A : List Ask} {w : Ask} (hm : 1 ≤ m ∧ m ≤ 3) (hv : LV l L) (h1 : l "most" = some (.int m)) (h2 : l "asked" = some (.ref q)) (h3 : l "whole" = some (askV w)) (fq : FL L q)
    (B : BOk C sn) (hg : C.gs.length ≤ 60) (hs : sn.length ≤ 12) (hk : k ≤ 100) (hA : A.length ≤ 20) (hw : AskIn C sn w)
    (hK : ∀ C' k' sn' A' w', BOk C' sn' → C.gs <+: C'.gs → (∀ x ∈ sn, x ∈ sn') → C'.gs.length ≤ C.gs.length + 19 → sn'.length ≤ sn.length + m + 1 → k' ≤ k + 8 → A'.length = A.length + 2 → (∀ a ∈ A', a ∈ A ∨ AskIn C' sn' a) → AskIn C' sn' w' →
      K .next (l.set "whole" (askV w')) (putL L C' k' sn' (HP.set (fun _ => none) q (askO A')))) :
    wpB (Call P (n + 7)) law_r8 l (putL L C k sn (HP.set (fun _ => none) q (askO A))) K := by
  obtain ⟨l1, l2, l3⟩ := hv
  unfold law_r8 law_s8b law_s8c law_s8d
  walk_at "go"
  refine g_tappend (askO_get fq) ?_
  walk_at "go"
  refine block_ok ⟨Int.ofNat_le.mpr hm.1, Int.ofNat_le.mpr hm.2⟩ B (by exact Nat.le_trans (Nat.add_le_add_right hk _) (by decide)) (by exact Nat.le_trans hg (Nat.le_add_left _ _)) (by exact Nat.le_trans hs (by decide)) fun C1 k1 own g r B1 pre1 len1 own1 own2 hk1 ask1 => ?_
  walk_at "go"
  refine g_append (askO_get fq) (by rw [List.length_map]; unfold SZ; exact Nat.le_trans hA (by decide)) ?_
  have e1 : (putL L C1 k1 (sn ++ own) (HP.set (fun _ => none) q (askO A))).set q (.list (A.map askV ++ [.tup [.int g, .int r, .int own.length]])) = putL L C1 k1 (sn ++ own) (HP.set (fun _ => none) q (askO (A ++ [⟨g, r, own⟩]))) := askO_set (a := ⟨g, r, own⟩) fq
  rw [e1]
  walk_at "go"
  have hl1 : idxGet (.ref q) (.int (-1)) (putL L C1 k1 (sn ++ own) (HP.set (fun _ => none) q (askO (A ++ [⟨g, r, own⟩])))) = some (askV ⟨g, r, own⟩) := by
    rw [ix_rl (askO_get fq), List.map_append]; exact seqGet_last
  refine g_gi hl1 (by unfold small; exact by decide) ?_
  walk_at "go"
  have hown : ∀ x ∈ own, x ∈ sn ++ own := fun x hx => List.mem_append_right _ hx
  have hsn : ∀ x ∈ sn, x ∈ sn ++ own := fun x hx => List.mem_append_left _ hx
  have hw1 := hw.mono pre1 hsn
  have hdis := (List.nodup_append.mp B1.nd).2.2
  have hown3 : own.length ≤ 3 := Nat.le_trans (Int.ofNat_le.mp own1) hm.2
  have hC1 : C1.gs.length ≤ C.gs.length + 3 + 6 := Nat.le_trans len1 (Nat.add_le_add (Nat.add_le_add_left hown3 _) (Nat.mul_le_mul_left 3 (Nat.sub_le_sub_right hown3 1)))
  have hwl : w.D.length ≤ 12 := Nat.le_trans (len_le_of_sub hw.ok.nd hw.sub) hs
  refine put_ok (D1 := w.D) (D2 := own) B1 (Nat.le_trans (Nat.add_le_add_right hk1 6) (Nat.le_trans (Nat.add_le_add_right (Nat.add_le_add_right hk 5) 6) (by decide))) (Nat.le_trans hC1 (Nat.le_trans (Nat.add_le_add_right (Nat.add_le_add_right hg 3) 6) (by decide))) (by rw [List.length_append]; exact Nat.le_trans (Nat.add_le_add hs hown3) (by decide)) hw1.ok ask1 (by exact Nat.le_trans hwl (by decide)) (Nat.le_trans hown3 (by decide)) hw1.sub hown (fun x hx hx' => hdis x (hw.sub x hx) x hx' rfl) fun C2 k2 ext g2 r2 D B2 pre2 len2 ext1 hk2 ask2 sub2 dl2 => ?_
  walk_at "go"
  refine g_tappend (askO_get fq) ?_
  walk_at "go"
  refine g_append (askO_get fq) (by rw [List.length_map, List.length_append, List.length_singleton]; unfold SZ; exact Nat.lt_of_le_of_lt hA (by decide)) ?_
  have e2 : (putL L C2 k2 (sn ++ own ++ ext) (HP.set (fun _ => none) q (askO (A ++ [⟨g, r, own⟩])))).set q (.list ((A ++ [(⟨g, r, own⟩ : Ask)]).map askV ++ [.tup [.int g2, .int r2, .int D.length]])) = putL L C2 k2 (sn ++ own ++ ext) (HP.set (fun _ => none) q (askO (A ++ [⟨g, r, own⟩] ++ [⟨g2, r2, D⟩]))) := askO_set (a := ⟨g2, r2, D⟩) fq
  rw [e2]
  walk_at "go"
  refine hK C2 k2 (sn ++ own ++ ext) _ ⟨g2, r2, D⟩ B2 (pre1.trans pre2) (fun x hx => List.mem_append_left _ (hsn x hx)) (have := Nat.add_le_add_right hC1 10; Nat.le_trans len2 this) (by rw [List.length_append, List.length_append]; exact Nat.add_le_add (Nat.add_le_add_left (Int.ofNat_le.mp own1) _) ext1) (by exact Nat.le_trans hk2 (Nat.add_le_add_right hk1 _)) (by rw [List.length_append, List.length_append]; rfl) (fun a ha => ?_) ⟨ask2, sub2⟩
  rcases List.mem_append.mp ha with ha | ha
  · rcases List.mem_append.mp ha with ha | ha
    · exact .inl ha
    · obtain rfl := List.mem_singleton.mp ha
      exact .inr ⟨ask1.mono pre2, fun x hx => List.mem_append_left _ (hown x hx)⟩
  · obtain rfl := List.mem_singleton.mp ha
    exact .inr ⟨ask2, sub2⟩

theorem lp_step {x d y r T : Nat} (h : x + (r + 1) * d ≤ T) (h2 : y ≤ x + d) : y + r * d ≤ T := by
  rw [Nat.succ_mul] at h
  exact Nat.le_trans (Nat.add_le_add_right h2 _) (by rw [Nat.add_assoc, Nat.add_comm d]; exact h)
theorem lp_le {x d r T : Nat} (h : x + r * d ≤ T) : x ≤ T := Nat.le_trans (Nat.le_add_right _ _) h
inductive LpI (L : LI) (q m : Nat) (idle : Int) (xs : List AV) (l : Loc) (h : HP) : Prop
  | mk (C : Circ) (k : Nat) (sn : List Int) (A : List Ask) (w : Ask) (rest : List Nat) (e1 : xs = rest.map (fun (t : Nat) => AV.int (1 + (t : Int)))) (e2 : h = putL L C k sn (HP.set (fun _ => none) q (askO A))) (hv : LV l L) (h4 : l "idle" = some (.int idle)) (h1 : l "most" = some (.int m)) (h2 : l "asked" = some (.ref q)) (h3 : l "whole" = some (askV w))
      (B : BOk C sn) (b1 : C.gs.length + rest.length * 20 ≤ 51) (b2 : sn.length + rest.length * (m + 2) ≤ 10) (b3 : k + rest.length * 8 ≤ 23) (b4 : A.length + rest.length * 2 ≤ 6) (ne : A ≠ []) (hin : ∀ a ∈ A, AskIn C sn a) (hw : AskIn C sn w) : LpI L q m idle xs l h
theorem loop_ok {l : Loc} {nb m : Nat} {idle : Int} {C : Circ} {k : Nat} {sn : List Int} {A : List Ask} {w : Ask} (hnm : (nb = 2 ∧ m = 3) ∨ (nb = 3 ∧ m = 2)) (hv : LV l L) (h0 : l "blocks" = some (.int nb)) (h4 : l "idle" = some (.int idle)) (h1 : l "most" = some (.int m)) (h2 : l "asked" = some (.ref q)) (h3 : l "whole" = some (askV w)) (fq : FL L q)
    (B : BOk C sn) (hg : C.gs.length ≤ 2 + m + 3 * (m - 1)) (hs : sn.length ≤ m) (hk : k ≤ 7) (hA : A.length = 2) (hin : ∀ a ∈ A, AskIn C sn a) (hw : AskIn C sn w)
    (hK : ∀ C k sn A l', LV l' L → l' "asked" = some (.ref q) → BOk C sn → C.gs.length ≤ 51 → sn.length ≤ 10 → k ≤ 23 → (∀ a ∈ A, AskIn C sn a) → A ≠ [] → A.length ≤ 6 → wpB (Call P (n + 7)) tail l' (putL L C k sn (HP.set (fun _ => none) q (askO A))) K) :
    wpB (Call P (n + 7)) (.cons law_s8 tail) l (putL L C k sn (HP.set (fun _ => none) q (askO A))) K := by
  have hm : 1 ≤ m ∧ m ≤ 3 := by rcases hnm with ⟨_, rfl⟩ | ⟨_, rfl⟩ <;> decide
  have hne : A ≠ [] := fun e => by rw [e] at hA; cases hA
  have b : C.gs.length + (nb - 1) * 20 ≤ 51 ∧ sn.length + (nb - 1) * (m + 2) ≤ 10 ∧ k + (nb - 1) * 8 ≤ 23 ∧ A.length + (nb - 1) * 2 ≤ 6 := by
    rcases hnm with ⟨rfl, rfl⟩ | ⟨rfl, rfl⟩ <;> exact ⟨Nat.le_trans (Nat.add_le_add_right hg _) (by decide), Nat.le_trans (Nat.add_le_add_right hs _) (by decide), Nat.le_trans (Nat.add_le_add_right hk _) (by decide), by rw [hA]; decide⟩
  have hnb : nb ≤ 3 := by rcases hnm with ⟨rfl, _⟩ | ⟨rfl, _⟩ <;> decide
  have hn1 : ((nb : Int) - 1).toNat = nb - 1 := by exact Int.toNat_sub _ 1
  clear hnm hg hs hk hA
  unfold law_s8
  walk_at "go"
  refine g_range2 (by unfold small; exact by decide) (smallN (by unfold SZ; exact Nat.le_trans hnb (by decide))) ?_
  walk_at "go"
  refine ⟨(List.range (nb - 1)).map (fun (t : Nat) => AV.int (1 + (t : Int))), ?_, ?_⟩
  · simp only [itemsOf, rangeL]
    rw [hn1]
  have hlr : (List.range (nb - 1)).length = nb - 1 := List.length_range
  refine wpFor_ind (LpI L q m idle) (fun l h hI => ?_) (fun Q y xs l h hQ hI => ?_) ⟨C, k, sn, A, w, _, rfl, rfl, hv, h4, h1, h2, h3, B, by rw [hlr]; exact b.1, by rw [hlr]; exact b.2.1, by rw [hlr]; exact b.2.2.1, by rw [hlr]; exact b.2.2.2, hne, hin, hw⟩
  · obtain ⟨C, k, sn, A, w, rest, e1, rfl, hv, h4, h1, h2, h3, B, b1, b2, b3, b4, ne, hin, hw⟩ := hI
    exact hK C k sn A l hv h2 B (lp_le b1) (lp_le b2) (lp_le b3) hin ne (lp_le b4)
  · clear b hlr hn1 hnb hne hK hw hin
    obtain ⟨C, k, sn, A, w, rest, e1, rfl, hv, h4, h1, h2, h3, B, b1, b2, b3, b4, ne, hin, hw⟩ := hI
    cases rest with
    | nil => cases e1
    | cons t rest =>
    simp only [List.map_cons, List.cons.injEq] at e1
    obtain ⟨rfl, rfl⟩ := e1
    obtain ⟨l1, l2, l3⟩ := hv
    have c1 := lp_le b1
    have c2 := lp_le b2
    have c3 := lp_le b3
    have c4 := lp_le b4
    refine ⟨_, rfl, ?_⟩
    have fin : ∀ (K' : Fl → Loc → HP → Prop) C1 sn1, (∀ l h, (∃ h3, HP.Sub h3 h ∧ Q l h3) → K' .next l h) → BOk C1 sn1 → C.gs <+: C1.gs → (∀ x ∈ sn, x ∈ sn1) → C1.gs.length ≤ C.gs.length + 1 → sn1.length ≤ sn.length + 1 →
        wpB (Call P (n + 7)) law_r8 (l.set "k" (AV.int (1 + (t : Int)))) (putL L C1 k sn1 (HP.set (fun _ => none) q (askO A))) K' := fun K' C1 sn1 hKK B1 pre1 sub1 len1 sl1 => by
      refine r8_ok (m := m) (w := w) hm ⟨by walk_at "lk", by walk_at "lk", by walk_at "lk"⟩ (by walk_at "lk") (by walk_at "lk") (by walk_at "lk") fq B1 (by exact Nat.le_trans len1 (Nat.le_trans (Nat.add_le_add_right c1 _) (by decide))) (Nat.le_trans sl1 (Nat.le_trans (Nat.add_le_add_right c2 1) (by decide))) (by exact Nat.le_trans c3 (by decide)) (by exact Nat.le_trans c4 (by decide)) (hw.mono pre1 sub1) fun C' k' sn' A' w' B' pre' sub' len' sl' hk' hA' hin' hw' => ?_
      refine hKK _ _ ⟨_, HP.Sub.refl _, hQ _ _ ⟨C', k', sn', A', w', rest, rfl, rfl, ⟨by walk_at "lk", by walk_at "lk", by walk_at "lk"⟩, by walk_at "lk", by walk_at "lk", by walk_at "lk", by walk_at "lk",
        B', lp_step b1 (by exact Nat.le_trans len' (Nat.add_le_add_right len1 _)), lp_step b2 (Nat.le_trans sl' (by have := Nat.add_le_add_right sl1 (m + 1); rw [Nat.add_assoc sn.length 1, Nat.add_comm 1] at this; exact this)), lp_step b3 hk', lp_step b4 (Nat.le_of_eq hA'), fun e => (by rw [e] at hA'; cases hA'), fun a ha => ?_, hw'⟩⟩
      rcases hin' a ha with z | z
      · exact (hin a z).mono (pre1.trans pre') fun x hx => sub' x (sub1 x hx)
      · exact z
    show wpB _ (.cons law_s8a law_r8) (l.set "k" (.int (1 + (t : Int)))) _ _
    unfold law_s8a
    walk_at "go"
    by_cases hid : 1 + (t : Int) ≤ idle
    · refine g_dpos hid ?_
      walk_at "go"
      refine g_tappend putL_s ?_
      walk_at "go"
      refine newInputL (by unfold SZ; exact Nat.le_trans (Nat.lt_succ_of_le c1) (Nat.le_add_left _ _)) ?_
      walk_at "go"
      refine g_append putL_s (by rw [List.length_map]; unfold SZ; exact Nat.le_trans c2 (by decide)) ?_
      have e : AObj.list (sn.map .int ++ [.int (C.gs.length : Int)]) = seenO (sn ++ [(C.gs.length : Int)]) := by unfold seenO; rw [List.map_append]; rfl
      rw [e, putL_sets]
      walk_at "go"
      refine fin _ _ _ (fun _ _ z => z) B.add (List.prefix_append _ _) (fun x hx => List.mem_append_left _ hx) ?_ (by rw [List.length_append]; exact Nat.le_refl _)
      show (C.gs ++ [("input", [])]).length ≤ _
      rw [List.length_append]; exact Nat.le_refl _
    · refine g_dneg hid ?_
      walk_at "go"
      exact fin _ C sn (fun _ _ z => z) B (List.prefix_refl _) (fun x hx => hx) (Nat.le_succ _) (Nat.le_succ _)
end
end Mine
end
section
set_option Elab.async false
set_option maxRecDepth 100000
set_option linter.unusedVariables false
set_option linter.unusedSimpArgs false
namespace Mine

section
variable {C : Circ} {sn : List Int} {a : Ask}

theorem ask_count (B : BOk C sn) (x : AskIn C sn a) : (SU C.gs a.g.natAbs).length ≤ sn.length ∧ a.D.length ≤ sn.length ∧
    own C.gs a.g * 2 ^ (sn.length - (SU C.gs a.g.natAbs).length) = cnt a.D (fun ρ => Lit C.gs ρ a.g) * 2 ^ (sn.length - a.D.length) ∧
    own C.gs (-a.g) * 2 ^ (sn.length - (SU C.gs a.g.natAbs).length) = cnt a.D (fun ρ => !Lit C.gs ρ a.g) * 2 ^ (sn.length - a.D.length) := by
  have hl := x.ok.li
  have w := B.wc.wg
  have hsub : ∀ y ∈ SU C.gs a.g.natAbs, y ∈ sn := fun y hy => by
    obtain ⟨n, e, _, _, h⟩ := SU_inputs w _ hl.1 hl.2 y hy
    rw [e]; exact B.all n _ h
  have hd := dep_lit w hl
  obtain ⟨c1, c2⟩ := cnt_sub (SU_nodup w hl.1 hl.2) B.nd hsub hd
  obtain ⟨c3, c4⟩ := cnt_sub x.ok.nd B.nd x.sub x.ok.dep
  obtain ⟨_, c5⟩ := cnt_sub (SU_nodup w hl.1 hl.2) B.nd hsub hd.not
  obtain ⟨_, c6⟩ := cnt_sub x.ok.nd B.nd x.sub x.ok.dep.not
  refine ⟨c1, c3, ?_, ?_⟩
  · rw [Nat.mul_comm, Nat.mul_comm (cnt a.D _), ← c4]; exact c2.symm
  · have e : own C.gs (-a.g) = cnt (SU C.gs a.g.natAbs) (fun ρ => !Lit C.gs ρ a.g) := by
      unfold own
      rw [Int.natAbs_neg]
      exact cnt_congr fun ρ => Lit_neg hl
    rw [e, Nat.mul_comm, Nat.mul_comm (cnt a.D _), ← c6]; exact c5.symm
theorem ask_gk (B : BOk C sn) (x : AskIn C sn a) (hz : C.gs.length ≤ 60) (h10 : sn.length ≤ 10) : GK C a.g := by
  have hl := x.ok.li
  have w := B.wc.wg
  refine ⟨⟨w, hl, by unfold SZ; exact Nat.le_trans (Nat.mul_le_mul_right _ hz) (by decide), ?_⟩, by have := (ask_count B x).1; exact Nat.le_trans this h10⟩
  have := nat_len (gs := C.gs) (BE_nodup w hl.1 hl.2) fun y hy => by
    obtain ⟨m, e, _, h⟩ := BE_range w _ hl.1 hl.2 y hy
    exact ⟨m, e, by have := hl.2; exact Nat.lt_of_le_of_lt h this⟩
  exact Nat.le_trans this (Nat.le_trans hz (by decide))
end

noncomputable def hpx (L : LI) (q : Nat) (A : List Ask) (sn : List Int) (k : Nat) : HP := ((HP.set (fun _ => none) q (askO A)).set L.f (feedO L.cells L.blend k)).set L.s (seenO sn)

section
variable {n : Nat} {K : Fl → Loc → HP → Prop} {tail : Ss} {L : LI} {q : Nat} {A : List Ask} {sn : List Int} {j : SI} {C : Circ} {S : Tabs} {k : Nat}
theorem hpx_f : hpx L q A sn k L.f = some (feedO L.cells L.blend k) := by unfold hpx; rw [HP.set_ne L.hfs, HP.set_self]
theorem hpx_s : hpx L q A sn k L.s = some (seenO sn) := by unfold hpx; rw [HP.set_self]
theorem hpx_q (fq : FL L q) : hpx L q A sn k q = some (askO A) := by unfold hpx; rw [HP.set_ne fq.s, HP.set_ne fq.f, HP.set_self]
theorem hpx_setf {k' : Nat} : (hpx L q A sn k).set L.f (feedO L.cells L.blend k') = hpx L q A sn k' := by unfold hpx; rw [set_comm (Ne.symm L.hfs), set_set]
theorem putL_hpx : putL L C k sn (HP.set (fun _ => none) q (askO A)) = putC L.i C (hpx L q A sn k) := rfl

structure CV (l : Loc) (L : LI) (q : Nat) (j : SI) : Prop where
  feed : l "feed" = some (.ref L.f)
  seen : l "seen" = some (.ref L.s)
  asked : l "asked" = some (.ref q)
  counter : l "counter" = some (sAV j)
structure FJ (j : SI) (L : LI) (q : Nat) : Prop where
  f : Free j L.f
  s : Free j L.s
  q : Free j q

theorem counter_ok {l : Loc} (hv : LV l L) (h2 : l "asked" = some (.ref q)) (fq : FL L q) (hl : sn.length ≤ SZ)
    (hK : ∀ j l', j.ins = sn → FJ j L q → CV l' L q j → wpB (Call P (n + 1)) tail l' (putS j C S0 (hpx L q A sn k)) K) :
    wpB (Call P (n + 1)) (.cons law_s9 (.cons law_s10 tail)) l (putL L C k sn (HP.set (fun _ => none) q (askO A))) K := by
  obtain ⟨l1, l2, l3⟩ := hv
  rw [putL_hpx]
  unfold law_s9 law_s10
  walk_at "go"
  refine g_new ?_
  walk_at "go"
  intro a d ha hd had
  have hsx : putC L.i C (hpx L q A sn k) L.s = some (seenO sn) := by rw [putC_ne L.ds]; exact hpx_s
  have has : a ≠ L.s := fun e => by subst e; rw [hsx] at ha; cases ha
  have hds : d ≠ L.s := fun e => by subst e; rw [hsx] at hd; cases hd
  refine count_init had has hds ha hd hsx hl fun j ji jn fa fd b1 b2 b3 => ⟨rfl, ?_⟩
  have hne : ∀ {b c : Nat} {o : AObj}, hpx L q A sn k b = none → hpx L q A sn k c = some o → c ≠ b := fun h1 h2 e => by subst e; rw [h1] at h2; cases h2
  have fj : FJ j L q := by
    refine ⟨⟨?_, ?_, ?_, hne b1 hpx_f, hne b2 hpx_f, hne b3 hpx_f⟩, ⟨?_, ?_, ?_, hne b1 hpx_s, hne b2 hpx_s, hne b3 hpx_s⟩, ⟨?_, ?_, ?_, hne b1 (hpx_q fq), hne b2 (hpx_q fq), hne b3 (hpx_q fq)⟩⟩
    all_goals rw [ji]
    · exact L.df.1
    · exact L.df.2.1
    · exact L.df.2.2
    · exact L.ds.1
    · exact L.ds.2.1
    · exact L.ds.2.2
    · exact fq.c.1
    · exact fq.c.2.1
    · exact fq.c.2.2
  have hxa : hpx L q A sn k a = none := (putC_fresh ha).2.2.2
  have hxd : hpx L q A sn k d = none := (putC_fresh hd).2.2.2
  walk_at "go"
  refine g_frzI (a := a) (d := d) (Cn := "Counter") (at_ := sAt j) (by walk_at "lk") HP.set_self (by rw [HP.set_ne (Ne.symm had), HP.set_self]) ?_
  rw [del_back (by rw [putS_get fa]; exact hxa) (by rw [putS_get fd]; exact hxd)]
  walk_at "go"
  exact hK j _ jn fj ⟨by walk_at "lk", by walk_at "lk", by walk_at "lk", by walk_at "lk"⟩

theorem g_nel {xs ys : List AV} {is js : List Int} {hp : HP} {K : AV → HP → Prop} (h1 : intsOf xs = some is) (h2 : intsOf ys = some js) (h3 : is.length = js.length) (h : K (.bool (decide (is ≠ js))) hp) : wpCmp .ne (.fl xs) (.fl ys) hp K := by rw [cp_nel]; exact ⟨is, js, h1, h2, h3, h⟩
theorem g_rev {CC : CallSem} {loc : Loc} {hp : HP} {K : AV → HP → Prop} {e : E} (h : wpE CC e loc hp fun o hp1 => ∃ xs, asList o hp1 = some xs ∧ xs.length ≤ SZ ∧ K (.fl xs.reverse) hp1) : wpE CC (.rev e) loc hp K := h
theorem s11c_ok {l : Loc} {hp : HP} {r X Y : Int} {w N : Nat} {xs : List AV} {s : Nat} (h1 : l "told" = some (.fl [.int X, .int Y])) (h2 : l "rows" = some (.int r)) (h3 : l "wide" = some (.int w)) (h4 : l "seen" = some (.ref s)) (hs : hp s = some (.list xs)) (hN : xs.length = N)
    (hw : w ≤ N) (hN2 : N ≤ 10) (hr : 0 ≤ r ∧ r ≤ 2 ^ w) (hX : X = r * 2 ^ (N - w)) (hY : Y = (2 ^ w - r) * 2 ^ (N - w)) (hK : K .next l hp) : wpS (Call P n) law_s11c l hp K := by
  have z2 : small 2 := by unfold small; exact by decide
  have p10 : ∀ {e : Nat}, e ≤ 10 → (0 : Int) < 2 ^ e ∧ (2 : Int) ^ e ≤ 1024 := fun {e} he => by
    have h1 := pow_pos' e
    have h2 := Nat.pow_le_pow_right (n := 2) (i := e) (j := 10) (by exact Nat.le_add_left _ _) he
    rw [pow_cast]; omega
  have pw := p10 (e := w) (by exact Nat.le_trans hw hN2)
  have pn := p10 (e := N - w) (by exact Nat.le_trans (Nat.sub_le _ _) hN2)
  have en : ((N : Int) - (w : Int)).toNat = N - w := by exact Int.toNat_sub _ _
  have d0 : (0 : Int) ≤ (N : Int) - (w : Int) ∧ (N : Int) - (w : Int) ≤ 1000 := by omega
  have hz : xs.length ≤ SZ := by unfold SZ; exact Nat.le_trans (Nat.le_of_eq hN) (Nat.le_trans hN2 (by decide))
  clear p10
  unfold law_s11c
  walk_at "go"
  refine g_len (ln_r hs) hz ?_
  rw [hN]
  walk_at "go"
  refine g_pow z2 d0.1 d0.2 ?_
  rw [en]
  walk_at "go"
  refine g_mul (small_of hr.1 (by exact Int.le_trans hr.2 (Int.le_trans pw.2 (by decide)))) (small_of (by exact Int.natCast_nonneg _) (by exact Int.le_trans pn.2 (by decide))) ?_
  walk_at "go"
  refine g_pow z2 (Int.natCast_nonneg w) (by omega) ?_
  rw [show ((w : Int)).toNat = w from rfl]
  walk_at "go"
  refine g_len (ln_r hs) hz ?_
  rw [hN]
  walk_at "go"
  refine g_pow z2 d0.1 d0.2 ?_
  rw [en]
  walk_at "go"
  refine g_mul (small_of (by exact Int.sub_nonneg_of_le hr.2) (by exact Int.le_trans (Int.sub_le_self _ hr.1) (Int.le_trans pw.2 (by decide)))) (small_of (by exact Int.natCast_nonneg _) (by omega)) ?_
  walk_at "go"
  refine g_nel (is := [X, Y]) (js := [r * 2 ^ (N - w), (2 ^ w - r) * 2 ^ (N - w)]) rfl rfl rfl ?_
  walk_at "go"
  refine g_dneg (fun h => h (by rw [hX, hY])) ?_
  walk_at "go"
  exact hK

noncomputable def law_r11 : Ss := (.cons law_s11b (.cons law_s11c .nil))
theorem law_b11_eq : law_b11 = .cons law_s11a law_r11 := rfl

theorem hpx_draw {fj : FJ j L q} {many : Int} {K : AV → HP → Prop} (hm : 0 < many) (hk : k ≤ 1000) (hK : ∀ d : Int, 0 ≤ d → d < many → K (.int d) (putS j C S (hpx L q A sn (k + 1)))) :
    Call P (n + 1) "_law_draw" [.ref L.f, .int many] (putS j C S (hpx L q A sn k)) K :=
  draw_ok (by rw [putS_get fj.f]; exact hpx_f) hm hk L.hc L.hb fun d h1 h2 => by
    rw [putS_comm fj.f, hpx_setf]; exact hK d h1 h2

theorem r11_ok {l : Loc} {a : Ask} {C1 : Circ} {kk : Nat} (fj : FJ j L q) (hj : j.ins = sn) (cv : CV l L q j) (h1 : l "gate" = some (.int a.g)) (h2 : l "rows" = some (.int a.r)) (h3 : l "wide" = some (.int a.D.length))
    (B : BOk C sn) (hg : C.gs.length ≤ 60) (h10 : sn.length ≤ 10) (x : AskIn C sn a) (hk : k ≤ 1000) (w1 : WC C1) (T : TOk C1.gs S) (pre : C.gs <+: C1.gs) (R : Room C1 (kk + 2 * (252 * 1023)))
    (hK : ∀ C' S' l', WC C' → TOk C'.gs S' → C.gs <+: C'.gs → Room C' kk → CV l' L q j → K .next l' (putS j C' S' (hpx L q A sn (k + 1)))) :
    wpB (Call P (n + 6)) law_r11 l (putS j C1 S (hpx L q A sn k)) K := by
  obtain ⟨l1, l2, l3, l4⟩ := cv
  have G0 := ask_gk B x hg h10
  obtain ⟨c1, c2, c3, c4⟩ := ask_count B x
  have hli := x.ok.li
  have hN := cnt_not (xs := a.D) (f := fun ρ => Lit C.gs ρ a.g)
  have G0n : GK C (-a.g) := by
    obtain ⟨⟨p1, p2, p3, p4⟩, p5⟩ := G0
    exact ⟨⟨p1, p2.neg, p3, by rw [Int.natAbs_neg]; exact p4⟩, by rw [Int.natAbs_neg]; exact p5⟩
  have hrows : a.r = (cnt a.D (fun ρ => Lit C.gs ρ a.g) : Nat) := x.ok.rows
  have hlast : ∀ (K' : Fl → Loc → HP → Prop) (C' : Circ) (S' : Tabs) (l' : Loc), (∀ l h, K .next l h → K' .next l h) → WC C' → TOk C'.gs S' → C.gs <+: C'.gs → Room C' kk → CV l' L q j → l' "rows" = some (.int a.r) → l' "wide" = some (.int a.D.length) →
      l' "told" = some (.fl [.int ((own C.gs a.g * 2 ^ (sn.length - (SU C.gs a.g.natAbs).length) : Nat) : Int), .int ((own C.gs (-a.g) * 2 ^ (sn.length - (SU C.gs a.g.natAbs).length) : Nat) : Int)]) →
      wpS (Call P (n + 6)) law_s11c l' (putS j C' S' (hpx L q A sn (k + 1))) K' := fun K' C' S' l' hKK w' T' pre' R' cv' e1 e2 e3 => by
    refine s11c_ok (w := a.D.length) (N := sn.length) (s := L.s) (xs := sn.map .int) e3 e1 e2 cv'.seen (by rw [putS_get fj.s]; exact hpx_s) (by simp) c2 h10 ?_ ?_ ?_ (hKK _ _ (hK C' S' l' w' T' pre' R' cv'))
    · rw [hrows, pow_cast]; omega
    · rw [c3, hrows, pow_cast]; simp
    · rw [c4, hrows, pow_cast, pow_cast]
      have e : (((2 ^ a.D.length : Nat)) : Int) - (cnt a.D (fun ρ => Lit C.gs ρ a.g) : Nat) = (cnt a.D (fun ρ => !Lit C.gs ρ a.g) : Nat) := by omega
      rw [e]; simp
  have hone : ∀ (g : Int) (C1 : Circ) (S : Tabs) (k' : Nat) (kk : Nat) (K : AV → HP → Prop), GK C g → (SU C.gs g.natAbs).length ≤ sn.length → WC C1 → TOk C1.gs S → C.gs <+: C1.gs → Room C1 (kk + 252 * 1023) →
      (∀ C' S', WC C' → TOk C'.gs S' → C.gs <+: C'.gs → Room C' kk → K (.int ((own C.gs g * 2 ^ (sn.length - (SU C.gs g.natAbs).length) : Nat) : Int)) (putS j C' S' (hpx L q A sn k'))) →
      Call P (n + 6) "Counter.count" [sAV j, .int g] (putS j C1 S (hpx L q A sn k')) K := fun g C1 S k' kk K G hle w1 T pre R hK => by
    have hl := G.ok.li
    have G1 := G.mono w1.wg pre R.sz.1
    have hS : SU C1.gs g.natAbs = SU C.gs g.natAbs := SU_stable pre hl.2
    refine count_ok w1 T G1 R (by rw [hS, hj]; exact hle) (by rw [hj]; exact Nat.le_trans h10 (by decide)) fun C' S' w' T' pre' R' => ?_
    rw [hS, hj, own_stable pre hl]
    exact hK C' S' w' T' (pre.trans pre') R'
  have fin : ∀ (K' : Fl → Loc → HP → Prop) (C' : Circ) (S' : Tabs), (∀ l h, K .next l h → K' .next l h) → WC C' → TOk C'.gs S' → C.gs <+: C'.gs → Room C' kk →
      wpS (Call P (n + 6)) law_s11c (l.set "told" (.fl [.int ((own C.gs a.g * 2 ^ (sn.length - (SU C.gs a.g.natAbs).length) : Nat) : Int), .int ((own C.gs (-a.g) * 2 ^ (sn.length - (SU C.gs a.g.natAbs).length) : Nat) : Int)])) (putS j C' S' (hpx L q A sn (k + 1))) K' := fun K' C' S' hKK w' T' pre' R' =>
    hlast K' C' S' _ hKK w' T' pre' R' ⟨by walk_at "lk", by walk_at "lk", by walk_at "lk", by walk_at "lk"⟩ (by walk_at "lk") (by walk_at "lk") (by walk_at "lk")
  unfold law_r11 law_s11b
  walk_at "go"
  refine hpx_draw (fj := fj) (by decide) hk fun d d0 d1 => ?_
  walk_at "go"
  by_cases hd : d = 0
  · refine g_dpos hd ?_
    walk_at "go"
    refine hone a.g C1 S (k + 1) (kk + 252 * 1023) _ G0 c1 w1 T pre (R.less (by exact Nat.le_refl _)) fun C2 S2 w2 T2 pre2 R2 => ?_
    walk_at "go"
    rw [Int.zero_sub]
    refine hone (-a.g) C2 S2 (k + 1) kk _ G0n (by rw [Int.natAbs_neg]; exact c1) w2 T2 pre2 R2 fun C3 S3 w3 T3 pre3 R3 => ?_
    rw [Int.natAbs_neg]
    walk_at "go"
    exact fin _ C3 S3 (fun _ _ z => z) w3 T3 pre3 R3
  · refine g_dneg hd ?_
    refine g_rev ?_
    walk_at "go"
    rw [Int.zero_sub]
    refine hone (-a.g) C1 S (k + 1) (kk + 252 * 1023) _ G0n (by rw [Int.natAbs_neg]; exact c1) w1 T pre (R.less (by exact Nat.le_refl _)) fun C2 S2 w2 T2 pre2 R2 => ?_
    walk_at "go"
    refine hone a.g C2 S2 (k + 1) kk _ G0 c1 w2 T2 pre2 R2 fun C3 S3 w3 T3 pre3 R3 => ?_
    rw [Int.natAbs_neg]
    walk_at "go"
    refine ⟨_, al_fl, (show 2 ≤ SZ by decide), ?_⟩
    walk_at "go"
    exact fin _ C3 S3 (fun _ _ z => z) w3 T3 pre3 R3

inductive LaI (C : Circ) (L : LI) (q : Nat) (j : SI) (A : List Ask) (sn : List Int) (k : Nat) (xs : List AV) (l : Loc) (h : HP) : Prop
  | mk (C1 : Circ) (S : Tabs) (k1 : Nat) (rest : List Nat) (e1 : xs = rest.map (fun (t : Nat) => AV.int (t : Int))) (e3 : h = putS j C1 S (hpx L q A sn k1)) (cv : CV l L q j) (w1 : WC C1) (T : TOk C1.gs S) (pre : C.gs <+: C1.gs) (R : Room C1 (rest.length * (2 * (252 * 1023)))) (hk : k1 + rest.length * 2 ≤ k) : LaI C L q j A sn k xs l h
theorem laps_ok {l : Loc} (fj : FJ j L q) (fq : FL L q) (hj : j.ins = sn) (cv : CV l L q j) (B : BOk C sn) (hg : C.gs.length ≤ 60) (h10 : sn.length ≤ 10) (hA : ∀ a ∈ A, AskIn C sn a) (hne : A ≠ []) (hl : A.length ≤ 6) (hk : k ≤ 100)
    (hK : ∀ l h, K (.ret (.bool true)) l h) : wpB (Call P (n + 6)) (.cons law_s11 (.cons law_s12 .nil)) l (putS j C S0 (hpx L q A sn k)) K := by
  have hpos : 0 < A.length := List.length_pos_iff.mpr hne
  have Tz : TOk C.gs S0 := ⟨⟨fun k v h => by (cases h), List.nodup_nil⟩, fun k v h => by (cases h), List.nodup_nil, fun k v h => by (cases h), List.nodup_nil⟩
  have gq : ∀ C1 S k, putS j C1 S (hpx L q A sn k) q = some (.list (A.map askV)) := fun C1 S k => by rw [putS_get fj.q, hpx_q fq]; rfl
  unfold law_s11 law_s12
  walk_at "go"
  refine g_range1 (by unfold small; exact by decide) ?_
  walk_at "go"
  refine ⟨_, items_range (m := 7) rfl, ?_⟩
  refine wpFor_ind (LaI C L q j A sn (k + 14)) (fun l h hI => ?_) (fun Q y xs l h hQ hI => ?_) ⟨C, S0, k, _, rfl, rfl, cv, B.wc, Tz, List.prefix_refl _, ⟨?_, ?_⟩, Nat.le_refl _⟩
  · walk_at "go"
    exact hK _ _
  · obtain ⟨C1, S, k1, rest, e1, rfl, cv, w1, T, pre, R, hk1⟩ := hI
    cases rest with
    | nil => cases e1
    | cons t rest =>
    simp only [List.map_cons, List.cons.injEq] at e1
    obtain ⟨rfl, rfl⟩ := e1
    rw [List.length_cons, Nat.succ_mul] at R hk1
    have cv0 := cv
    obtain ⟨l1, l2, l3, l4⟩ := cv
    have go : ∀ (K' : Fl → Loc → HP → Prop) (a : Ask) (k2 : Nat) (l' : Loc), a ∈ A → k2 + 1 ≤ k1 + 2 → CV l' L q j → l' "gate" = some (.int a.g) → l' "rows" = some (.int a.r) → l' "wide" = some (.int a.D.length) →
        (∀ l h, (∃ h3, HP.Sub h3 h ∧ Q l h3) → K' .next l h) → wpB (Call P (n + 6)) law_r11 l' (putS j C1 S (hpx L q A sn k2)) K' := fun K' a k2 l' ha hk2 cv' g1 g2 g3 hKK => by
      refine r11_ok (kk := rest.length * (2 * (252 * 1023))) fj hj cv' g1 g2 g3 B hg h10 (hA a ha) (by omega) w1 T pre R fun C' S' l'' w' T' pre' R' cv'' => ?_
      exact hKK _ _ ⟨_, HP.Sub.refl _, hQ _ _ ⟨C', S', k2 + 1, rest, rfl, rfl, cv'', w', T', pre', R', by omega⟩⟩
    refine ⟨_, rfl, ?_⟩
    show wpB _ (.cons law_s11a law_r11) (l.set "lap" (.int t)) _ _
    unfold law_s11a
    walk_at "go"
    by_cases h3 : (t : Int) = 3
    · refine g_dpos h3 ?_
      have hlast : A.map askV = A.dropLast.map askV ++ [askV (A.getLast hne)] := by
        rw [← List.map_singleton (f := askV), ← List.map_append, List.dropLast_concat_getLast hne]
      walk_at "go"
      refine g_gi (v := askV (A.getLast hne)) (by rw [ix_rl (gq _ _ _), hlast]; exact seqGet_last) (by unfold small; exact by decide) ?_
      refine g_a3 (by decide) ?_
      walk_at "go"
      exact go _ (A.getLast hne) k1 _ (List.getLast_mem hne) (Nat.le_succ _) ⟨by walk_at "lk", by walk_at "lk", by walk_at "lk", by walk_at "lk"⟩ (by walk_at "lk") (by walk_at "lk") (by walk_at "lk") fun _ _ z => z
    · refine g_dneg h3 ?_
      walk_at "go"
      refine g_len (ln_r (gq _ _ _)) (by rw [List.length_map]; unfold SZ; exact Nat.le_trans hl (by decide)) ?_
      rw [List.length_map]
      walk_at "go"
      refine hpx_draw (fj := fj) (by exact Int.ofNat_le.mpr hpos) (by omega) fun d d0 d1 => ?_
      obtain ⟨e, rfl⟩ : ∃ e : Nat, d = e := ⟨d.toNat, by exact (Int.toNat_of_nonneg d0).symm⟩
      obtain ⟨a, ha⟩ : ∃ a, A[e]? = some a := ⟨_, List.getElem?_eq_getElem (by exact Int.ofNat_le.mp d1)⟩
      walk_at "go"
      refine g_gi (v := askV a) (by rw [ix_rl (gq _ _ _)]; exact seqGet_nat (by rw [List.getElem?_map, ha]; rfl)) (smallN (by unfold SZ; omega)) ?_
      refine g_a3 (by decide) ?_
      walk_at "go"
      exact go _ a (k1 + 1) _ (List.mem_of_getElem? ha) (Nat.le_refl _) ⟨by walk_at "lk", by walk_at "lk", by walk_at "lk", by walk_at "lk"⟩ (by walk_at "lk") (by walk_at "lk") (by walk_at "lk") fun _ _ z => z
  · rw [List.length_range]; exact Nat.le_trans (Nat.add_le_add_right hg _) (by decide)
  · have := B.kl; rw [List.length_range]; exact Nat.le_trans (Nat.add_le_add_right (Nat.le_trans this hg) _) (by decide)

theorem law_ok {is : List Int} (hlen : is.length ≤ 63) : Call P (n + 8) "law" [.fl (is.map .int)] (fun _ => none) (fun v _ => v = .bool true) := by
  refine call_of rfl rfl ?_
  rw [b_law_eq]
  refine start_ok (n := n + 6) hlen fun L l hv => ?_
  refine setup_ok hv fun nb m idle q C k sn a l' hnm hv' h0 h4 h1 h2 h3 fq B hg hs hk ha => ?_
  refine loop_ok hnm hv' h0 h4 h1 h2 h3 fq B hg hs hk rfl (fun b hb => ?_) ha fun C k sn A l' hv' h2 B hg hs hk hA hne hl => ?_
  · simp at hb
    rcases hb with rfl | rfl
    · exact one_ask B
    · exact ha
  refine counter_ok hv' h2 fq (by unfold SZ; exact Nat.le_trans hs (by decide)) fun j l' hj fj cv => ?_
  exact laps_ok (n := n + 1) fj fq hj cv B (by exact Nat.le_trans hg (Nat.le_add_left _ _)) hs hA hne hl (by exact Nat.le_trans hk (by decide)) fun l h => ⟨h, HP.Sub.refl _, rfl⟩
end
end Mine
end
open PySem PySem.W PyProof.Rows
set_option Elab.async false
set_option maxRecDepth 100000
set_option maxHeartbeats 8000000
local macro_rules | `(tactic| k_qdec) => `(tactic| first | exact Mine.tv1 | exact Mine.tv2)
theorem Mine.lawOk : Mine.LawOk := fun _ h => Mine.law_ok (n := 5) h
theorem PySem.Challenge.cw_nz0388_01_holds : PySem.Challenge.rw_nz0388_01.Holds :=
  Mine.hd (by
  w_strict (k_go0; (all_goals try k_fold)
            rename IntsAre _ _ => hI
            rename Fr _ _ _ _ => F0
            rename Top _ _ _ _ _ _ => T0
            rename Frag.In _ _ => X0
            rename Ground _ _ _ _ _ _ _ _ _ => G0
            rename Well _ _ _ _ => W0
            rename Heap.IsList _ _ _ => hL
            rename ¬ _ => hlen
            rename Shared.gens _ = _ => hgens
            refine Mine.link Mine.lawOk X0 T0.g T0.b T0.nolimit T0.builtins G0.low ?_ hI ?_ F0 ?_ _ _ _ rfl rfl rfl ?_
            · cases W0 with
              | list g wa =>
                obtain ⟨o, ho, hc, n, hd⟩ := hL
                rw [g] at ho
                cases ho
                cases hd
                exact g
            · exact Int.ofNat_le.mp (Int.not_lt.mp hlen)
            · intro s' hk hos hg'
              exact ⟨.inl ⟨_, .bool true, [], rfl, fun _ => rfl, .bool true, (by kernel_rfl), fun _ => ⟨List.nodup_nil, fun _ h => nomatch h⟩⟩, hk, hos, hg'.trans hgens⟩
            · decide +kernel))

