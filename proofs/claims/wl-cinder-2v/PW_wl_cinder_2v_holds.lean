import PyProof.Rows.All
import Wide.All
import OpenK.KLine
import Wide.FinOn
import PyProof.Cells
import PyProof.ListOps
import PyProof.DictList
import PyProof.DictKinds
import PyProof.PureInt
import PyProof.Rows.IntRules
import PyProof.Rows.RuleB_floordiv
import PyProof.Rows.RuleB_mod
import PyProof.Rows.RuleB_mul
import PyProof.Rows.RuleC_int
import PyProof.Rows.RuleU_int
import PyProof.Rows.StrRules
import PyProof.Rows.ListMul
import PyProof.Rows.EqDataRows
import PyProof.Rows.SortWalk
import PyProof.Rows.TupSub
import PyProof.P3In
import PyProof.SumWalkG
import PyProof.ListCopy
import PyProof.SliceMore
import PyProof.IsRules
import PyProof.Rows.StrTemp
import PyProof.DictRoads
import PyProof.Methods
import PyProof.Rows.StrMeet
import PyProof.CallStr
import PyProof.AttrMissHeap
import PyProof.DictUpdate
import KE.KItemsList
import KE.KDictOf
import PyProof.WalksMore
import PyProof.Rows.GenSrcRange
import PyProof.CompFree
import PyProof.Rows.TupAssign
import PyProof.Rows.TupIter
import PyProof.CompUse
import PyProof.Raises
import PySem.Challenge.RW_wl_cinder_2v
set_option Elab.async false

set_option genSizeOf false
set_option genSizeOfSpec false
namespace Mine
open PySem (Str)

/-- data, as trees -/
inductive D where
  | non
  | bool (b : Bool)
  | int (i : Int)
  | str (x : Str)
  | tup (ds : List D)
  | lst (ds : List D)
  | dic (ks : List Int) (ds : List D)

inductive Bop | add | sub | mul | fdiv | mod
inductive Cop | eq | ne | lt | le | gt | ge | isin | notin | isnone
inductive Bi | len | list | sum | sorted | str | dict | items

set_option genInjectivity false
mutual
inductive E where
  | non
  | bool (b : Bool)
  | int (i : Int)
  | str (x : Str)
  | var (i : Nat)
  | bin (op : Bop) (a b : E)
  | neg (a : E)
  | cmp (op : Cop) (a b : E)
  | ite (t : T) (a b : E)
  | call (f : String) (es : Es)
  | bi (f : Bi) (a : E)
  | idx (a i : E)
  | slc (a lo hi : E)
  | lst (es : Es)
  | tup (es : Es)
  | dic0
  | comp (elt : E) (it : It)
inductive Es where
  | nil
  | cons (e : E) (es : Es)
inductive T where
  | cmp (op : Cop) (a b : E)
  | not (t : T)
  | and (a b : T)
  | or (a b : T)
  | ex (e : E)
inductive It where
  | range (e : E)
  | seq (e : E)
end

mutual
inductive S where
  | assign (x : Nat) (e : E)
  | assignO (x : Nat) (e : E)
  | take (x y k : Nat)
  | frz (x : Nat)
  | unpack (xs : List Nat) (e : E)
  | setidx (x : Nat) (i e : E)
  | append (x : Nat) (e : E)
  | ite (t : T) (a b : Ss)
  | for1 (x : Nat) (it : It) (b : Ss)
  | for2 (x y : Nat) (it : It) (b : Ss)
  | while (t : T) (b : Ss)
  | ret (e : E)
  | ret2 (x y : Nat) (es : Es)
  | brk
  | raise (c : String) (e : E)
  | laid (m f r : E)
inductive Ss where
  | nil
  | cons (s : S) (ss : Ss)
end

set_option genInjectivity true
inductive C where
  | val (d : D)
  | own (xs : List D)
  | gone
inductive R where
  | val (d : D)
  | own (xs : List D)
  | tup (cs : List C)

abbrev Sto := List (Option R)

mutual
noncomputable def D.eqb : D → D → Bool
  | .non, .non => true
  | .bool a, .bool b => a == b
  | .int a, .int b => decide (a = b)
  | .str a, .str b => decide (a = b)
  | .tup a, .tup b => D.eqbs a b
  | .lst a, .lst b => D.eqbs a b
  | _, _ => false
noncomputable def D.eqbs : List D → List D → Bool
  | [], [] => true
  | a :: as, b :: bs => D.eqb a b && D.eqbs as bs
  | _, _ => false
end

/-- what Python's == compares as trees: no bools, no dicts; of small depth -/
noncomputable def D.ok : Nat → D → Bool
  | _, .non => true
  | _, .int _ => true
  | _, .str x => x.cps.all (· < 128)
  | n + 1, .tup ds => ds.all (D.ok n)
  | n + 1, .lst ds => ds.all (D.ok n)
  | _, _ => false

noncomputable def lid : Nat := 4096

noncomputable def C.toD? : C → Option D
  | .val d => some d
  | .own xs => some (.lst xs)
  | .gone => none
noncomputable def cds : List C → Option (List D)
  | [] => some []
  | c :: cs => do return (← c.toD?) :: (← cds cs)
noncomputable def R.toD? : R → Option D
  | .val d => some d
  | .own xs => some (.lst xs)
  | .tup cs => (cds cs).map .tup

noncomputable def rd (σ : Sto) (i : Nat) : Option R := (σ[i]?).join
/-- a name as a value that is kept: it owns nothing -/
noncomputable def rdV (σ : Sto) (i : Nat) : Option D := match rd σ i with
  | some (.val d) => some d
  | _ => none
/-- a name as a value that is looked at and dropped -/
noncomputable def rdB (σ : Sto) (i : Nat) : Option D := match rd σ i with
  | some (.val d) => some d
  | some (.own xs) => some (.lst xs)
  | _ => none
noncomputable def brw (e : E) (σ : Sto) (d : Option D) : Option D := match e with
  | .var i => rdB σ i
  | _ => d

noncomputable def num2 : Bop → Int → Int → Option Int
  | .add, a, b => some (a + b)
  | .sub, a, b => some (a - b)
  | .mul, a, b => if a.natAbs < 1000000 ∧ b.natAbs < 1000000 then some (a * b) else none
  | .fdiv, a, b => if 0 < b ∧ b < 1000000 then some (a / b) else none
  | .mod, a, b => if 0 < b then some (a % b) else none

noncomputable def mk (xs : List D) : Option D := if xs.length ≤ lid then some (.lst xs) else none

noncomputable def binI (op : Bop) (a : Int) (y : D) : Option D := match y with
  | .int b => (num2 op a b).map .int
  | _ => none
noncomputable def binA (xs : List D) (y : D) : Option D := match y with
  | .lst ys => mk (xs ++ ys)
  | _ => none
noncomputable def binR (x y : D) : Option D := match y with
  | .int n => if 0 ≤ n ∧ n ≤ lid then some (.lst (List.replicate n.toNat x)) else none
  | _ => none
noncomputable def binS (x : Str) (y : D) : Option D := match y with
  | .str y => if x.length ≤ lid ∧ y.length ≤ lid then some (.str (x ++ y)) else none
  | _ => none
noncomputable def bin2 (op : Bop) (x y : D) : Option D := match x with
  | .int a => binI op a y
  | .lst xs => match op with
    | .add => binA xs y
    | .mul => match xs with
      | [x] => binR x y
      | _ => none
    | _ => none
  | .str x => match op with
    | .add => binS x y
    | _ => none
  | _ => none

noncomputable def cmp2 : Cop → D → D → Option Bool
  | .eq, a, b => if a.ok 4 && b.ok 4 then some (D.eqb a b) else none
  | .ne, a, b => if a.ok 4 && b.ok 4 then some (!D.eqb a b) else none
  | .lt, .int a, .int b => some (decide (a < b))
  | .le, .int a, .int b => some (decide (a ≤ b))
  | .gt, .int a, .int b => some (decide (a > b))
  | .ge, .int a, .int b => some (decide (a ≥ b))
  | .isin, .int a, .lst xs => if xs.all (D.ok 0) then some (xs.any fun x => D.eqb x (.int a)) else none
  | .notin, .int a, .lst xs => if xs.all (D.ok 0) then some (!xs.any fun x => D.eqb x (.int a)) else none
  | .isnone, a, .non => some (match a with | .non => true | _ => false)
  | _, _, _ => none

noncomputable def dnums : List D → Option (List Int)
  | [] => some []
  | .int i :: r => (dnums r).map (i :: ·)
  | _ :: _ => none
noncomputable def dints (xs : List Int) : List D := xs.map .int

noncomputable def pairs : List D → Option (List (Int × D))
  | [] => some []
  | .tup [.int k, v] :: r => (pairs r).map ((k, v) :: ·)
  | _ :: _ => none

noncomputable def onL (g : List D → Option D) (x : D) : Option D := match x with
  | .lst xs => g xs
  | _ => none
noncomputable def biStr (x : D) : Option D := match x with
  | .int i => if i.natAbs < 1000000 then some (.str (Str.ofString (toString i))) else none
  | _ => none
noncomputable def biItems (x : D) : Option D := match x with
  | .dic ks ds => if ks.length = ds.length ∧ ks.length ≤ lid then some (.lst ((ks.zip ds).map fun p => .tup [.int p.1, p.2])) else none
  | _ => none
noncomputable def bi1 (f : Bi) (x : D) : Option D := match f with
  | .len => onL (fun xs => if xs.length ≤ lid then some (.int xs.length) else none) x
  | .list => onL mk x
  | .sum => onL (fun xs => (dnums xs).map fun ns => .int ns.sum) x
  | .sorted => onL (fun xs => (dnums xs).bind fun ns => if ns.length < 64 then some (.lst (dints (ns.mergeSort (fun a b => decide (a ≤ b))))) else none) x
  | .str => biStr x
  | .dict => onL (fun xs => (pairs xs).bind fun kvs => if decide (kvs.map (·.1)).Nodup && decide (kvs.length ≤ lid) then some (.dic (kvs.map (·.1)) (kvs.map (·.2))) else none) x
  | .items => biItems x

noncomputable def look (k : Int) : List Int → List D → Option D
  | q :: ks, d :: ds => if q = k then some d else look k ks ds
  | _, _ => none

noncomputable def idx2 : D → D → Option D
  | .lst xs, .int k => if 0 ≤ k ∧ k < lid then xs[k.toNat]? else none
  | .tup xs, .int k => if 0 ≤ k ∧ k < lid then xs[k.toNat]? else none
  | .dic ks ds, .int k => look k ks ds
  | _, _ => none

noncomputable def slc3 : D → D → D → Option D
  | .lst xs, .int a, .int b => if 0 ≤ a ∧ 0 ≤ b ∧ xs.length ≤ lid then some (.lst ((xs.drop a.toNat).take (b.toNat - a.toNat))) else none
  | .lst xs, .non, .int b => if 0 ≤ b ∧ xs.length ≤ lid then some (.lst (xs.take b.toNat)) else none
  | .lst xs, .int a, .non => if 0 ≤ a ∧ xs.length ≤ lid then some (.lst (xs.drop a.toNat)) else none
  | _, _, _ => none

noncomputable def rangeD (n : Int) : Option (List D) := if 0 ≤ n ∧ n ≤ lid then some ((List.range n.toNat).map fun (i : Nat) => D.int (i : Int)) else none

noncomputable def mapO (f : D → Option D) : List D → Option (List D)
  | [] => some []
  | x :: xs => (f x).bind fun y => (mapO f xs).map (y :: ·)

abbrev Gam := String → List D → Option R

/-- one component of a tuple that may own some of its items -/
noncomputable def comp? (σ : Sto) : E → E → Option D
  | .var j, .int k => match rd σ j with
    | some (.tup cs) => if 0 ≤ k ∧ k < lid then (cs[k.toNat]?).bind fun c => match c with | .val d => some d | _ => none else none
    | _ => none
  | _, _ => none

variable (Γ : Gam)
mutual
noncomputable def ev : E → Sto → Option D
  | .non, _ => some .non
  | .bool b, _ => some (.bool b)
  | .int i, _ => some (.int i)
  | .str x, _ => some (.str x)
  | .var i, σ => rdV σ i
  | .bin op a b, σ => (brw a σ (ev a σ)).bind fun x => (brw b σ (ev b σ)).bind fun y => bin2 op x y
  | .neg a, σ => (ev a σ).bind fun x => match x with | .int i => some (.int (-i)) | _ => none
  | .cmp op a b, σ => (brw a σ (ev a σ)).bind fun x => (brw b σ (ev b σ)).bind fun y => (cmp2 op x y).map .bool
  | .ite t a b, σ => (evT t σ).bind fun c => if c then ev a σ else ev b σ
  | .call f es, σ => (evs es σ).bind fun ds => (Γ f ds).bind R.toD?
  | .bi f a, σ => (brw a σ (ev a σ)).bind fun x => bi1 f x
  | .idx a i, σ => match comp? σ a i with
    | some d => some d
    | none => (brw a σ (ev a σ)).bind fun x => (ev i σ).bind fun y => idx2 x y
  | .slc a lo hi, σ => (brw a σ (ev a σ)).bind fun x => (ev lo σ).bind fun y => (ev hi σ).bind fun z => slc3 x y z
  | .lst es, σ => (evs es σ).bind mk
  | .tup es, σ => (evs es σ).bind fun ds => if ds.length ≤ lid then some (.tup ds) else none
  | .dic0, _ => some (.dic [] [])
  | .comp e it, σ => (evI it σ).bind fun xs => (mapO (fun x => ev e (σ ++ [some (.val x)])) xs).bind mk
noncomputable def evs : Es → Sto → Option (List D)
  | .nil, _ => some []
  | .cons e es, σ => (ev e σ).bind fun d => (evs es σ).map (d :: ·)
noncomputable def evT : T → Sto → Option Bool
  | .cmp op a b, σ => (brw a σ (ev a σ)).bind fun x => (brw b σ (ev b σ)).bind fun y => cmp2 op x y
  | .not t, σ => (evT t σ).map (!·)
  | .and a b, σ => (evT a σ).bind fun x => if x then evT b σ else some false
  | .or a b, σ => (evT a σ).bind fun x => if x then some true else evT b σ
  | .ex e, σ => (ev e σ).bind fun x => match x with | .bool b => some b | _ => none
noncomputable def evI : It → Sto → Option (List D)
  | .range e, σ => (ev e σ).bind fun x => match x with | .int n => rangeD n | _ => none
  | .seq e, σ => (ev e σ).bind fun x => match x with | .lst xs => if xs.length ≤ lid then some xs else none | _ => none
end

/-- a value that its name shall own -/
noncomputable def evO : E → Sto → Option R
  | .call f es, σ => (evs Γ es σ).bind fun ds => Γ f ds
  | .lst es, σ => (ev Γ (.lst es) σ).bind fun d => match d with | .lst xs => some (.own xs) | _ => none
  | .bin op a b, σ => (ev Γ (.bin op a b) σ).bind fun d => match d with | .lst xs => some (.own xs) | _ => none
  | .bi .list a, σ => (ev Γ (.bi .list a) σ).bind fun d => match d with | .lst xs => some (.own xs) | _ => none
  | _, _ => none

inductive O where
  | next (σ : Sto)
  | brk (σ : Sto)
  | ret (r : R)
  | exc (c : String)

noncomputable def put (σ : Sto) (x : Nat) (r : R) : Sto := σ.set x (some r)

noncomputable def wh (t : Sto → Option Bool) (b : Sto → Option O) : Nat → Sto → Option O
  | 0, _ => none
  | n + 1, σ => (t σ).bind fun c => if c then (b σ).bind fun o => match o with
      | .next σ' => wh t b n σ'
      | .brk σ' => some (.next σ')
      | .ret r => some (.ret r)
      | .exc _ => none
    else some (.next σ)

noncomputable def fo (a : D → Sto → Option Sto) (b : Sto → Option O) : List D → Sto → Option O
  | [], σ => some (.next σ)
  | x :: xs, σ => (a x σ).bind fun σ' => (b σ').bind fun o => match o with
      | .next σ'' => fo a b xs σ''
      | .brk σ'' => some (.next σ'')
      | .ret r => some (.ret r)
      | .exc _ => none

noncomputable def puts : List Nat → List D → Sto → Option Sto
  | [], [], σ => some σ
  | x :: xs, d :: ds, σ => puts xs ds (put σ x (.val d))
  | _, _, _ => none

noncomputable def frz1 (σ : Sto) (x : Nat) : Option Sto := ((rd σ x).bind R.toD?).map fun d => put σ x (.val d)

noncomputable def take1 (σ : Sto) (x y k : Nat) : Option Sto := match rd σ y with
  | some (.tup cs) => match cs[k]? with
    | some (.own xs) => if x = y then none else some (put (put σ y (.tup (cs.set k .gone))) x (.own xs))
    | _ => none
  | _ => none

noncomputable def ownOf (σ : Sto) (x : Nat) : Option (List D) := match rd σ x with
  | some (.own xs) => some xs
  | _ => none

variable (Λ : List D → Option D) (fuel : Nat)
mutual
noncomputable def exec : S → Sto → Option O
  | .assign x e, σ => (ev Γ e σ).map fun d => .next (put σ x (.val d))
  | .assignO x e, σ => (evO Γ e σ).map fun r => .next (put σ x r)
  | .take x y k, σ => (take1 σ x y k).map .next
  | .frz x, σ => (frz1 σ x).map .next
  | .unpack xs e, σ => (ev Γ e σ).bind fun d => match d with | .tup ds => (puts xs ds σ).map .next | _ => none
  | .setidx x i e, σ => (ev Γ e σ).bind fun d => (ev Γ i σ).bind fun k => match k with
      | .int k => (ownOf σ x).bind fun xs => if 0 ≤ k ∧ k < xs.length ∧ xs.length ≤ lid then some (.next (put σ x (.own (xs.set k.toNat d)))) else none
      | _ => none
  | .append x e, σ => (ev Γ e σ).bind fun d => (ownOf σ x).bind fun xs => if xs.length < lid then some (.next (put σ x (.own (xs ++ [d])))) else none
  | .ite t a b, σ => (evT Γ t σ).bind fun c => if c then execs a σ else execs b σ
  | .for1 x it b, σ => (evI Γ it σ).bind fun xs => fo (fun d σ => some (put σ x (.val d))) (fun σ => execs b σ) xs σ
  | .for2 x y it b, σ => (evI Γ it σ).bind fun xs => fo (fun d σ => match d with | .tup ds => puts [x, y] ds σ | _ => none) (fun σ => execs b σ) xs σ
  | .while t b, σ => wh (fun σ => evT Γ t σ) (fun σ => execs b σ) fuel σ
  | .ret e, σ => (brw e σ (ev Γ e σ)).map fun d => .ret (.val d)
  | .ret2 x y es, σ => if x = y then none else (ownOf σ x).bind fun xs => (ownOf σ y).bind fun ys => (evs Γ es σ).map fun ds => .ret (.tup (.own xs :: .own ys :: ds.map .val))
  | .brk, σ => some (.brk σ)
  | .raise c e, σ => (ev Γ e σ).map fun _ => .exc c
  | .laid m f r, σ => (ev Γ m σ).bind fun dm => (ev Γ f σ).bind fun df => (Λ [dm, df]).bind fun l => (brw r σ (ev Γ r σ)).bind fun dr => (cmp2 .ne l dr).map fun b => if b then .ret (.val (.bool false)) else .next σ
noncomputable def execs : Ss → Sto → Option O
  | .nil, σ => some (.next σ)
  | .cons s ss, σ => (exec s σ).bind fun o => match o with
      | .next σ' => execs ss σ'
      | o => some o
end

/-- a call: the arguments in the first slots, all else unbound -/
noncomputable def run (body : Ss) (nvars : Nat) (args : List D) : Option R :=
  (execs Γ Λ fuel body (args.map (fun d => some (.val d)) ++ List.replicate (nvars - args.length) none)).bind fun o => match o with
    | .ret r => some r
    | .next _ => some (.val .non)
    | _ => none

end Mine

set_option maxRecDepth 10000
namespace Mine
/-- is_pointer: 0 w -/
noncomputable def vs_is_pointer : List PySem.Str := [PySem.Str.ofString "w"]
noncomputable def b_is_pointer : Ss := (.cons (.ret (.cmp .eq (.bin .mod (.var 0) (.int 2)) (.int 1))) .nil)
/-- pointer_to: 0 a -/
noncomputable def vs_pointer_to : List PySem.Str := [PySem.Str.ofString "a"]
noncomputable def b_pointer_to : Ss := (.cons (.ret (.bin .add (.bin .mul (.int 2) (.var 0)) (.int 1))) .nil)
/-- address_of: 0 w -/
noncomputable def vs_address_of : List PySem.Str := [PySem.Str.ofString "w"]
noncomputable def b_address_of : Ss := (.cons (.ret (.bin .fdiv (.var 0) (.int 2))) .nil)
/-- blocks_of: 0 mem 1 blocks 2 at 3 j 4 h 5 n -/
noncomputable def vs_blocks_of : List PySem.Str := [PySem.Str.ofString "mem", PySem.Str.ofString "blocks", PySem.Str.ofString "at", PySem.Str.ofString "j", PySem.Str.ofString "h", PySem.Str.ofString "n"]
noncomputable def l_blocks_of_1 : Ss := (.cons (.ite (.cmp .eq (.var 3) (.var 2)) (.cons (.assign 4 (.idx (.var 0) (.var 3))) (.cons (.assign 5 (.ite (.cmp .ge (.var 4) (.int 0)) (.bin .add (.var 4) (.int 1)) (.neg (.var 4)))) (.cons (.ite (.cmp .gt (.bin .add (.var 3) (.var 5)) (.bi .len (.var 0))) (.cons (.ret .non) .nil) .nil) (.cons (.append 1 (.tup (.cons (.var 3) (.cons (.var 5) (.cons (.cmp .lt (.var 4) (.int 0)) .nil))))) (.cons (.assign 2 (.bin .add (.var 3) (.var 5))) .nil))))) .nil) .nil)
noncomputable def b_blocks_of : Ss := (.cons (.assignO 1 (.lst .nil)) (.cons (.assign 2 (.int 0)) (.cons (.for1 3 (.range (.bi .len (.var 0))) l_blocks_of_1) (.cons (.ret (.var 1)) .nil))))
/-- free_words: 0 mem 1 total 2 b -/
noncomputable def vs_free_words : List PySem.Str := [PySem.Str.ofString "mem", PySem.Str.ofString "total", PySem.Str.ofString "b"]
noncomputable def l_free_words_1 : Ss := (.cons (.ite (.ex (.idx (.var 2) (.int 2))) (.cons (.assign 1 (.bin .add (.var 1) (.idx (.var 2) (.int 1)))) .nil) .nil) .nil)
noncomputable def b_free_words : Ss := (.cons (.assign 1 (.int 0)) (.cons (.for1 2 (.seq (.call "blocks_of" (.cons (.var 0) .nil))) l_free_words_1) (.cons (.ret (.var 1)) .nil)))
/-- allocate: 0 mem 1 fields 2 blocks 3 need 4 b 5 a 6 new 7 i -/
noncomputable def vs_allocate : List PySem.Str := [PySem.Str.ofString "mem", PySem.Str.ofString "fields", PySem.Str.ofString "blocks", PySem.Str.ofString "need", PySem.Str.ofString "b", PySem.Str.ofString "a", PySem.Str.ofString "new", PySem.Str.ofString "i"]
noncomputable def l_allocate_2 : Ss := (.cons (.setidx 6 (.bin .add (.bin .add (.var 5) (.int 1)) (.var 7)) (.idx (.var 1) (.var 7))) .nil)
noncomputable def l_allocate_1 : Ss := (.cons (.ite (.and (.ex (.idx (.var 4) (.int 2))) (.cmp .ge (.idx (.var 4) (.int 1)) (.var 3))) (.cons (.assign 5 (.idx (.var 4) (.int 0))) (.cons (.assignO 6 (.bi .list (.var 0))) (.cons (.setidx 6 (.var 5) (.bi .len (.var 1))) (.cons (.for1 7 (.range (.bi .len (.var 1))) l_allocate_2) (.cons (.ite (.cmp .gt (.idx (.var 4) (.int 1)) (.var 3)) (.cons (.setidx 6 (.bin .add (.var 5) (.var 3)) (.bin .sub (.var 3) (.idx (.var 4) (.int 1)))) .nil) .nil) (.cons (.frz 6) (.cons (.ret (.tup (.cons (.var 6) (.cons (.var 5) .nil)))) .nil))))))) .nil) .nil)
noncomputable def b_allocate : Ss := (.cons (.assign 2 (.call "blocks_of" (.cons (.var 0) .nil))) (.cons (.ite (.cmp .isnone (.var 2) .non) (.cons (.raise "ValueError" (.str (PySem.Str.ofString "the memory is not tiled by blocks"))) .nil) .nil) (.cons (.assign 3 (.bin .add (.bi .len (.var 1)) (.int 1))) (.cons (.for1 4 (.seq (.var 2)) l_allocate_1) (.cons (.raise "OutOfMemory" (.bin .add (.bin .add (.str (PySem.Str.ofString "no free block of ")) (.bi .str (.var 3))) (.str (PySem.Str.ofString " words")))) .nil)))))
noncomputable def a_alloc0 : S := (.assign 2 (.call "blocks_of" (.cons (.var 0) .nil)))
noncomputable def a_alloc2 : S := (.assign 3 (.bin .add (.bi .len (.var 1)) (.int 1)))
noncomputable def a_alloc3 : S := (.for1 4 (.seq (.var 2)) l_allocate_1)
noncomputable def e_alloc : E := (.bin .add (.bin .add (.str (PySem.Str.ofString "no free block of ")) (.bi .str (.var 3))) (.str (PySem.Str.ofString " words")))
/-- fields_of: 0 mem 1 a -/
noncomputable def vs_fields_of : List PySem.Str := [PySem.Str.ofString "mem", PySem.Str.ofString "a"]
noncomputable def b_fields_of : Ss := (.cons (.ret (.slc (.var 0) (.bin .add (.var 1) (.int 1)) (.bin .add (.bin .add (.var 1) (.int 1)) (.idx (.var 0) (.var 1))))) .nil)
/-- reachable: 0 mem 1 roots 2 met 3 w 4 place -/
noncomputable def vs_reachable : List PySem.Str := [PySem.Str.ofString "mem", PySem.Str.ofString "roots", PySem.Str.ofString "met", PySem.Str.ofString "w", PySem.Str.ofString "place"]
noncomputable def l_reachable_1 : Ss := (.cons (.ite (.and (.ex (.call "is_pointer" (.cons (.var 3) .nil))) (.cmp .notin (.call "address_of" (.cons (.var 3) .nil)) (.var 2))) (.cons (.append 2 (.call "address_of" (.cons (.var 3) .nil))) .nil) .nil) .nil)
noncomputable def l_reachable_3 : Ss := (.cons (.ite (.and (.ex (.call "is_pointer" (.cons (.var 3) .nil))) (.cmp .notin (.call "address_of" (.cons (.var 3) .nil)) (.var 2))) (.cons (.append 2 (.call "address_of" (.cons (.var 3) .nil))) .nil) .nil) .nil)
noncomputable def l_reachable_2 : Ss := (.cons (.for1 3 (.seq (.call "fields_of" (.cons (.var 0) (.cons (.idx (.var 2) (.var 4)) .nil)))) l_reachable_3) (.cons (.assign 4 (.bin .add (.var 4) (.int 1))) .nil))
noncomputable def b_reachable : Ss := (.cons (.assignO 2 (.lst .nil)) (.cons (.for1 3 (.seq (.var 1)) l_reachable_1) (.cons (.assign 4 (.int 0)) (.cons (.while (.cmp .lt (.var 4) (.bi .len (.var 2))) l_reachable_2) (.cons (.ret (.var 2)) .nil)))))
/-- swept: 0 mem 1 marked 2 new 3 run 4 b 5 a 6 n -/
noncomputable def vs_swept : List PySem.Str := [PySem.Str.ofString "mem", PySem.Str.ofString "marked", PySem.Str.ofString "new", PySem.Str.ofString "run", PySem.Str.ofString "b", PySem.Str.ofString "a", PySem.Str.ofString "n"]
noncomputable def l_swept_1 : Ss := (.cons (.assign 5 (.idx (.var 4) (.int 0))) (.cons (.assign 6 (.idx (.var 4) (.int 1))) (.cons (.ite (.and (.not (.ex (.idx (.var 4) (.int 2)))) (.cmp .isin (.var 5) (.var 1))) (.cons (.assignO 2 (.bin .add (.var 2) (.slc (.var 0) (.var 5) (.bin .add (.var 5) (.var 6))))) (.cons (.assign 3 (.neg (.int 1))) .nil)) (.cons (.ite (.cmp .ge (.var 3) (.int 0)) (.cons (.setidx 2 (.var 3) (.bin .sub (.idx (.var 2) (.var 3)) (.var 6))) (.cons (.assignO 2 (.bin .add (.var 2) (.bin .mul (.lst (.cons (.int 0) .nil)) (.var 6)))) .nil)) (.cons (.assign 3 (.bi .len (.var 2))) (.cons (.assignO 2 (.bin .add (.bin .add (.var 2) (.lst (.cons (.neg (.var 6)) .nil))) (.bin .mul (.lst (.cons (.int 0) .nil)) (.bin .sub (.var 6) (.int 1))))) .nil))) .nil)) .nil)))
noncomputable def b_swept : Ss := (.cons (.assignO 2 (.lst .nil)) (.cons (.assign 3 (.neg (.int 1))) (.cons (.for1 4 (.seq (.call "blocks_of" (.cons (.var 0) .nil))) l_swept_1) (.cons (.ret (.var 2)) .nil))))
/-- collected_by_sweeping: 0 mem 1 roots -/
noncomputable def vs_collected_by_sweeping : List PySem.Str := [PySem.Str.ofString "mem", PySem.Str.ofString "roots"]
noncomputable def b_collected_by_sweeping : Ss := (.cons (.ret (.call "swept" (.cons (.var 0) (.cons (.call "reachable" (.cons (.var 0) (.cons (.var 1) .nil))) .nil)))) .nil)
/-- forwarded: 0 mem 1 new 2 forward 3 top 4 w 5 a 6 j -/
noncomputable def vs_forwarded : List PySem.Str := [PySem.Str.ofString "mem", PySem.Str.ofString "new", PySem.Str.ofString "forward", PySem.Str.ofString "top", PySem.Str.ofString "w", PySem.Str.ofString "a", PySem.Str.ofString "j"]
noncomputable def l_forwarded_1 : Ss := (.cons (.setidx 1 (.bin .add (.var 3) (.var 6)) (.idx (.var 0) (.bin .add (.var 5) (.var 6)))) .nil)
noncomputable def b_forwarded : Ss := (.cons (.assignO 1 (.bi .list (.var 1))) (.cons (.assignO 2 (.bi .list (.var 2))) (.cons (.ite (.not (.ex (.call "is_pointer" (.cons (.var 4) .nil)))) (.cons (.ret2 1 2 (.cons (.var 3) (.cons (.var 4) .nil))) .nil) .nil) (.cons (.assign 5 (.call "address_of" (.cons (.var 4) .nil))) (.cons (.ite (.cmp .lt (.idx (.var 2) (.var 5)) (.int 0)) (.cons (.for1 6 (.range (.bin .add (.idx (.var 0) (.var 5)) (.int 1))) l_forwarded_1) (.cons (.setidx 2 (.var 5) (.var 3)) (.cons (.assign 3 (.bin .add (.bin .add (.var 3) (.idx (.var 0) (.var 5))) (.int 1))) .nil))) .nil) (.cons (.ret2 1 2 (.cons (.var 3) (.cons (.call "pointer_to" (.cons (.idx (.var 2) (.var 5)) .nil)) .nil))) .nil))))))
/-- collected_by_copying: 0 mem 1 roots 2 size 3 new 4 forward 5 top 6 moved 7 w 8 scan 9 step 10 i -/
noncomputable def vs_collected_by_copying : List PySem.Str := [PySem.Str.ofString "mem", PySem.Str.ofString "roots", PySem.Str.ofString "size", PySem.Str.ofString "new", PySem.Str.ofString "forward", PySem.Str.ofString "top", PySem.Str.ofString "moved", PySem.Str.ofString "w", PySem.Str.ofString "scan", PySem.Str.ofString "step", PySem.Str.ofString "i"]
noncomputable def l_collected_by_copying_1 : Ss := (.cons (.frz 3) (.cons (.frz 4) (.cons (.assignO 9 (.call "forwarded" (.cons (.var 0) (.cons (.var 3) (.cons (.var 4) (.cons (.var 5) (.cons (.var 7) .nil))))))) (.cons (.take 3 9 0) (.cons (.take 4 9 1) (.cons (.assign 5 (.idx (.var 9) (.int 2))) (.cons (.append 6 (.idx (.var 9) (.int 3))) .nil)))))))
noncomputable def l_collected_by_copying_3 : Ss := (.cons (.frz 3) (.cons (.frz 4) (.cons (.assignO 9 (.call "forwarded" (.cons (.var 0) (.cons (.var 3) (.cons (.var 4) (.cons (.var 5) (.cons (.idx (.var 3) (.bin .add (.bin .add (.var 8) (.int 1)) (.var 10))) .nil))))))) (.cons (.take 3 9 0) (.cons (.take 4 9 1) (.cons (.assign 5 (.idx (.var 9) (.int 2))) (.cons (.setidx 3 (.bin .add (.bin .add (.var 8) (.int 1)) (.var 10)) (.idx (.var 9) (.int 3))) .nil)))))))
noncomputable def l_collected_by_copying_2 : Ss := (.cons (.for1 10 (.range (.idx (.var 3) (.var 8))) l_collected_by_copying_3) (.cons (.assign 8 (.bin .add (.bin .add (.var 8) (.idx (.var 3) (.var 8))) (.int 1))) .nil))
noncomputable def b_collected_by_copying : Ss := (.cons (.assign 2 (.bi .len (.var 0))) (.cons (.assignO 3 (.bin .mul (.lst (.cons (.int 0) .nil)) (.var 2))) (.cons (.assignO 4 (.bin .mul (.lst (.cons (.neg (.int 1)) .nil)) (.var 2))) (.cons (.assign 5 (.int 0)) (.cons (.assignO 6 (.lst .nil)) (.cons (.for1 7 (.seq (.var 1)) l_collected_by_copying_1) (.cons (.assign 8 (.int 0)) (.cons (.while (.cmp .lt (.var 8) (.var 5)) l_collected_by_copying_2) (.cons (.ite (.cmp .lt (.var 5) (.var 2)) (.cons (.setidx 3 (.var 5) (.bin .sub (.var 5) (.var 2))) .nil) .nil) (.cons (.frz 3) (.cons (.frz 6) (.cons (.ret (.tup (.cons (.var 3) (.cons (.var 6) .nil)))) .nil))))))))))))
/-- shape_of: 0 mem 1 roots 2 order 3 number 4 i 5 shown_roots 6 shown 7 a -/
noncomputable def vs_shape_of : List PySem.Str := [PySem.Str.ofString "mem", PySem.Str.ofString "roots", PySem.Str.ofString "order", PySem.Str.ofString "number", PySem.Str.ofString "i", PySem.Str.ofString "shown_roots", PySem.Str.ofString "shown", PySem.Str.ofString "a"]
noncomputable def l_shape_of_1 : Ss := (.cons (.setidx 3 (.idx (.var 2) (.var 4)) (.var 4)) .nil)
noncomputable def l_shape_of_2 : Ss := (.cons (.append 6 (.comp (.ite (.ex (.call "is_pointer" (.cons (.var 8) .nil))) (.call "pointer_to" (.cons (.idx (.var 3) (.call "address_of" (.cons (.var 8) .nil))) .nil)) (.var 8)) (.seq (.call "fields_of" (.cons (.var 0) (.cons (.var 7) .nil)))))) .nil)
noncomputable def b_shape_of : Ss := (.cons (.assign 2 (.call "reachable" (.cons (.var 0) (.cons (.var 1) .nil)))) (.cons (.assignO 3 (.bin .mul (.lst (.cons (.neg (.int 1)) .nil)) (.bi .len (.var 0)))) (.cons (.for1 4 (.range (.bi .len (.var 2))) l_shape_of_1) (.cons (.assign 5 (.comp (.ite (.ex (.call "is_pointer" (.cons (.var 8) .nil))) (.call "pointer_to" (.cons (.idx (.var 3) (.call "address_of" (.cons (.var 8) .nil))) .nil)) (.var 8)) (.seq (.var 1)))) (.cons (.assignO 6 (.lst .nil)) (.cons (.for1 7 (.seq (.var 2)) l_shape_of_2) (.cons (.frz 6) (.cons (.ret (.tup (.cons (.var 5) (.cons (.var 6) .nil)))) .nil))))))))
/-- _law_cell: 0 script 1 i -/
noncomputable def vs_law_cell : List PySem.Str := [PySem.Str.ofString "script", PySem.Str.ofString "i"]
noncomputable def b_law_cell : Ss := (.cons (.ite (.cmp .lt (.var 1) (.bi .len (.var 0))) (.cons (.ret (.idx (.var 0) (.var 1))) .nil) .nil) (.cons (.ret (.int 0)) .nil))
/-- _law_word: 0 c 1 spots -/
noncomputable def vs_law_word : List PySem.Str := [PySem.Str.ofString "c", PySem.Str.ofString "spots"]
noncomputable def b_law_word : Ss := (.cons (.ite (.and (.cmp .eq (.bin .mod (.var 0) (.int 2)) (.int 1)) (.cmp .gt (.bi .len (.var 1)) (.int 0))) (.cons (.ret (.bin .add (.bin .mul (.int 2) (.idx (.var 1) (.bin .mod (.bin .fdiv (.var 0) (.int 2)) (.bi .len (.var 1))))) (.int 1))) .nil) .nil) (.cons (.ret (.bin .mul (.int 2) (.bin .mod (.bin .fdiv (.var 0) (.int 2)) (.int 16)))) .nil))
/-- _law_built: 0 script 1 shapes 2 spots 3 size 4 i 5 mem 6 objs 7 cell 8 h 9 roots 10 kind 11 words -/
noncomputable def vs_law_built : List PySem.Str := [PySem.Str.ofString "script", PySem.Str.ofString "shapes", PySem.Str.ofString "spots", PySem.Str.ofString "size", PySem.Str.ofString "i", PySem.Str.ofString "mem", PySem.Str.ofString "objs", PySem.Str.ofString "cell", PySem.Str.ofString "h", PySem.Str.ofString "roots", PySem.Str.ofString "kind", PySem.Str.ofString "words"]
noncomputable def l_law_built_1 : Ss := (.cons (.assign 10 (.bin .mod (.call "_law_cell" (.cons (.var 0) (.cons (.bin .add (.int 6) (.var 4)) .nil))) (.int 12))) (.cons (.ite (.cmp .lt (.var 10) (.int 4)) (.cons (.append 1 (.bin .sub (.neg (.int 1)) (.var 10))) (.cons (.assign 3 (.bin .add (.bin .add (.var 3) (.var 10)) (.int 1))) .nil)) (.cons (.append 1 (.bin .mod (.var 10) (.int 4))) (.cons (.append 2 (.var 3)) (.cons (.assign 3 (.bin .add (.bin .add (.var 3) (.bin .mod (.var 10) (.int 4))) (.int 1))) .nil)))) .nil))
noncomputable def l_law_built_2 : Ss := (.cons (.ite (.cmp .lt (.var 8) (.int 0)) (.cons (.assign 5 (.bin .add (.bin .add (.var 5) (.lst (.cons (.var 8) .nil))) (.bin .mul (.lst (.cons (.int 0) .nil)) (.bin .sub (.neg (.var 8)) (.int 1))))) .nil) (.cons (.frz 2) (.cons (.assign 11 (.comp (.call "_law_word" (.cons (.call "_law_cell" (.cons (.var 0) (.cons (.bin .add (.var 7) (.var 12)) .nil))) (.cons (.var 2) .nil))) (.range (.var 8)))) (.cons (.assign 6 (.bi .dict (.bin .add (.bi .items (.var 6)) (.lst (.cons (.tup (.cons (.bi .len (.var 5)) (.cons (.var 11) .nil))) .nil))))) (.cons (.assign 5 (.bin .add (.bin .add (.var 5) (.lst (.cons (.var 8) .nil))) (.var 11))) (.cons (.assign 7 (.bin .add (.var 7) (.var 8))) .nil)))))) .nil)
noncomputable def b_law_built : Ss := (.cons (.assignO 1 (.lst .nil)) (.cons (.assignO 2 (.lst .nil)) (.cons (.assign 3 (.int 0)) (.cons (.for1 4 (.range (.bin .add (.int 1) (.bin .mod (.call "_law_cell" (.cons (.var 0) (.cons (.int 0) .nil))) (.int 6)))) l_law_built_1) (.cons (.assign 5 (.lst .nil)) (.cons (.assign 6 .dic0) (.cons (.assign 7 (.bin .add (.int 6) (.bi .len (.var 1)))) (.cons (.frz 1) (.cons (.for1 8 (.seq (.var 1)) l_law_built_2) (.cons (.frz 2) (.cons (.assign 9 (.comp (.call "_law_word" (.cons (.call "_law_cell" (.cons (.var 0) (.cons (.bin .add (.int 2) (.var 12)) .nil))) (.cons (.var 2) .nil))) (.range (.int 4)))) (.cons (.ret (.tup (.cons (.var 5) (.cons (.var 6) (.cons (.var 9) .nil))))) .nil))))))))))))
/-- _law_reach: 0 objs 1 roots 2 order 3 queue 4 at 5 w -/
noncomputable def vs_law_reach : List PySem.Str := [PySem.Str.ofString "objs", PySem.Str.ofString "roots", PySem.Str.ofString "order", PySem.Str.ofString "queue", PySem.Str.ofString "at", PySem.Str.ofString "w"]
noncomputable def l_law_reach_1 : Ss := (.cons (.ite (.cmp .eq (.var 4) (.bi .len (.var 3))) (.cons .brk .nil) .nil) (.cons (.assign 5 (.idx (.var 3) (.var 4))) (.cons (.ite (.and (.cmp .eq (.bin .mod (.var 5) (.int 2)) (.int 1)) (.cmp .notin (.bin .fdiv (.var 5) (.int 2)) (.var 2))) (.cons (.append 2 (.bin .fdiv (.var 5) (.int 2))) (.cons (.assign 3 (.bin .add (.var 3) (.idx (.var 0) (.bin .fdiv (.var 5) (.int 2))))) .nil)) .nil) (.cons (.assign 4 (.bin .add (.var 4) (.int 1))) .nil))))
noncomputable def b_law_reach : Ss := (.cons (.assignO 2 (.lst .nil)) (.cons (.assign 3 (.bi .list (.var 1))) (.cons (.assign 4 (.int 0)) (.cons (.while (.ex (.bool true)) l_law_reach_1) (.cons (.ret (.var 2)) .nil)))))
/-- _law_mend: 0 words 1 place -/
noncomputable def vs_law_mend : List PySem.Str := [PySem.Str.ofString "words", PySem.Str.ofString "place"]
noncomputable def b_law_mend : Ss := (.cons (.ret (.comp (.ite (.cmp .eq (.bin .mod (.var 2) (.int 2)) (.int 1)) (.bin .add (.bin .mul (.int 2) (.idx (.var 1) (.bin .fdiv (.var 2) (.int 2)))) (.int 1)) (.var 2)) (.seq (.var 0)))) .nil)
/-- _law_copy_due: 0 objs 1 order 2 roots 3 size 4 place 5 live 6 a 7 due -/
noncomputable def vs_law_copy_due : List PySem.Str := [PySem.Str.ofString "objs", PySem.Str.ofString "order", PySem.Str.ofString "roots", PySem.Str.ofString "size", PySem.Str.ofString "place", PySem.Str.ofString "live", PySem.Str.ofString "a", PySem.Str.ofString "due"]
noncomputable def l_law_copy_due_1 : Ss := (.cons (.assign 4 (.bi .dict (.bin .add (.bi .items (.var 4)) (.lst (.cons (.tup (.cons (.var 6) (.cons (.var 5) .nil))) .nil))))) (.cons (.assign 5 (.bin .add (.bin .add (.var 5) (.bi .len (.idx (.var 0) (.var 6)))) (.int 1))) .nil))
noncomputable def l_law_copy_due_2 : Ss := (.cons (.assign 7 (.bin .add (.bin .add (.var 7) (.lst (.cons (.bi .len (.idx (.var 0) (.var 6))) .nil))) (.call "_law_mend" (.cons (.idx (.var 0) (.var 6)) (.cons (.var 4) .nil))))) .nil)
noncomputable def b_law_copy_due : Ss := (.cons (.assign 4 .dic0) (.cons (.assign 5 (.int 0)) (.cons (.for1 6 (.seq (.var 1)) l_law_copy_due_1) (.cons (.assign 7 (.lst .nil)) (.cons (.for1 6 (.seq (.var 1)) l_law_copy_due_2) (.cons (.ite (.cmp .lt (.var 5) (.var 3)) (.cons (.assign 7 (.bin .add (.bin .add (.var 7) (.lst (.cons (.bin .sub (.var 5) (.var 3)) .nil))) (.bin .mul (.lst (.cons (.int 0) .nil)) (.bin .sub (.bin .sub (.var 3) (.var 5)) (.int 1))))) .nil) .nil) (.cons (.ret (.tup (.cons (.var 7) (.cons (.call "_law_mend" (.cons (.var 2) (.cons (.var 4) .nil))) .nil)))) .nil)))))))
/-- _law_sweep_due: 0 objs 1 order 2 size 3 due 4 gaps 5 a -/
noncomputable def vs_law_sweep_due : List PySem.Str := [PySem.Str.ofString "objs", PySem.Str.ofString "order", PySem.Str.ofString "size", PySem.Str.ofString "due", PySem.Str.ofString "gaps", PySem.Str.ofString "a"]
noncomputable def l_law_sweep_due_1 : Ss := (.cons (.ite (.cmp .lt (.bi .len (.var 3)) (.var 5)) (.cons (.append 4 (.tup (.cons (.bi .len (.var 3)) (.cons (.bin .sub (.var 5) (.bi .len (.var 3))) .nil)))) (.cons (.assign 3 (.bin .add (.bin .add (.var 3) (.lst (.cons (.bin .sub (.bi .len (.var 3)) (.var 5)) .nil))) (.bin .mul (.lst (.cons (.int 0) .nil)) (.bin .sub (.bin .sub (.var 5) (.bi .len (.var 3))) (.int 1))))) .nil)) .nil) (.cons (.ite (.cmp .lt (.var 5) (.var 2)) (.cons (.assign 3 (.bin .add (.bin .add (.var 3) (.lst (.cons (.bi .len (.idx (.var 0) (.var 5))) .nil))) (.idx (.var 0) (.var 5)))) .nil) .nil) .nil))
noncomputable def b_law_sweep_due : Ss := (.cons (.assign 3 (.lst .nil)) (.cons (.assignO 4 (.lst .nil)) (.cons (.for1 5 (.seq (.bin .add (.bi .sorted (.var 1)) (.lst (.cons (.var 2) .nil)))) l_law_sweep_due_1) (.cons (.frz 4) (.cons (.ret (.tup (.cons (.var 3) (.cons (.var 4) .nil)))) .nil)))))
/-- _law_shape_due: 0 objs 1 order 2 roots 3 number 4 i -/
noncomputable def vs_law_shape_due : List PySem.Str := [PySem.Str.ofString "objs", PySem.Str.ofString "order", PySem.Str.ofString "roots", PySem.Str.ofString "number", PySem.Str.ofString "i"]
noncomputable def l_law_shape_due_1 : Ss := (.cons (.assign 3 (.bi .dict (.bin .add (.bi .items (.var 3)) (.lst (.cons (.tup (.cons (.idx (.var 1) (.var 4)) (.cons (.var 4) .nil))) .nil))))) .nil)
noncomputable def b_law_shape_due : Ss := (.cons (.assign 3 .dic0) (.cons (.for1 4 (.range (.bi .len (.var 1))) l_law_shape_due_1) (.cons (.ret (.tup (.cons (.call "_law_mend" (.cons (.var 2) (.cons (.var 3) .nil))) (.cons (.comp (.call "_law_mend" (.cons (.idx (.var 0) (.var 5)) (.cons (.var 3) .nil))) (.seq (.var 1))) .nil)))) .nil)))
/-- _law_laid_due: 0 mem 1 gaps 2 fields 3 at 4 length 5 due -/
noncomputable def vs_law_laid_due : List PySem.Str := [PySem.Str.ofString "mem", PySem.Str.ofString "gaps", PySem.Str.ofString "fields", PySem.Str.ofString "at", PySem.Str.ofString "length", PySem.Str.ofString "due"]
noncomputable def l_law_laid_due_1 : Ss := (.cons (.ite (.cmp .gt (.var 4) (.bi .len (.var 2))) (.cons (.assign 5 (.bin .add (.bin .add (.slc (.var 0) .non (.var 3)) (.lst (.cons (.bi .len (.var 2)) .nil))) (.var 2))) (.cons (.ite (.cmp .gt (.var 4) (.bin .add (.bi .len (.var 2)) (.int 1))) (.cons (.assign 5 (.bin .add (.var 5) (.lst (.cons (.bin .sub (.bin .add (.bi .len (.var 2)) (.int 1)) (.var 4)) .nil)))) .nil) .nil) (.cons (.ret (.tup (.cons (.bin .add (.var 5) (.slc (.var 0) (.bi .len (.var 5)) .non)) (.cons (.var 3) .nil)))) .nil))) .nil) .nil)
noncomputable def b_law_laid_due : Ss := (.cons (.for2 3 4 (.seq (.var 1)) l_law_laid_due_1) (.cons (.ret (.str (PySem.Str.ofString "oom"))) .nil))
/-- law: 0 script 1 mem 2 objs 3 roots 4 size 5 n 6 old_mem 7 old_roots 8 order 9 live 10 want_copy 11 want_sweep 12 gaps 13 want_shape 14 got_copy 15 got_sweep 16 fields 17 blank 18 marks 19 step -/
noncomputable def vs_law : List PySem.Str := [PySem.Str.ofString "script", PySem.Str.ofString "mem", PySem.Str.ofString "objs", PySem.Str.ofString "roots", PySem.Str.ofString "size", PySem.Str.ofString "n", PySem.Str.ofString "old_mem", PySem.Str.ofString "old_roots", PySem.Str.ofString "order", PySem.Str.ofString "live", PySem.Str.ofString "want_copy", PySem.Str.ofString "want_sweep", PySem.Str.ofString "gaps", PySem.Str.ofString "want_shape", PySem.Str.ofString "got_copy", PySem.Str.ofString "got_sweep", PySem.Str.ofString "fields", PySem.Str.ofString "blank", PySem.Str.ofString "marks", PySem.Str.ofString "step"]
noncomputable def l_law_1 : Ss := (.cons (.laid (.idx (.var 14) (.int 0)) (.var 16) (.call "_law_laid_due" (.cons (.idx (.var 10) (.int 0)) (.cons (.lst (.cons (.tup (.cons (.var 9) (.cons (.bin .sub (.var 4) (.var 9)) .nil))) .nil)) (.cons (.var 16) .nil))))) .nil)
noncomputable def l_law_2 : Ss := (.cons (.laid (.var 15) (.var 16) (.call "_law_laid_due" (.cons (.var 11) (.cons (.var 12) (.cons (.var 16) .nil))))) .nil)
noncomputable def b_law : Ss := (.cons (.unpack [1, 2, 3] (.call "_law_built" (.cons (.var 0) .nil))) (.cons (.assign 4 (.bi .len (.var 1))) (.cons (.assign 5 (.bin .mod (.call "_law_cell" (.cons (.var 0) (.cons (.int 1) .nil))) (.int 4))) (.cons (.assign 6 (.bi .list (.var 1))) (.cons (.assign 7 (.bi .list (.var 3))) (.cons (.assign 8 (.call "_law_reach" (.cons (.var 2) (.cons (.var 3) .nil)))) (.cons (.assign 9 (.bi .sum (.comp (.bin .add (.bi .len (.idx (.var 2) (.var 20))) (.int 1)) (.seq (.var 8))))) (.cons (.assign 10 (.call "_law_copy_due" (.cons (.var 2) (.cons (.var 8) (.cons (.var 3) (.cons (.var 4) .nil)))))) (.cons (.unpack [11, 12] (.call "_law_sweep_due" (.cons (.var 2) (.cons (.var 8) (.cons (.var 4) .nil))))) (.cons (.assign 13 (.call "_law_shape_due" (.cons (.var 2) (.cons (.var 8) (.cons (.var 3) .nil))))) (.cons (.assign 14 (.call "collected_by_copying" (.cons (.var 1) (.cons (.var 3) .nil)))) (.cons (.ite (.cmp .ne (.var 14) (.var 10)) (.cons (.ret (.bool false)) .nil) .nil) (.cons (.assign 15 (.call "collected_by_sweeping" (.cons (.var 1) (.cons (.var 3) .nil)))) (.cons (.ite (.cmp .ne (.var 15) (.var 11)) (.cons (.ret (.bool false)) .nil) .nil) (.cons (.ite (.cmp .ne (.call "collected_by_copying" (.cons (.idx (.var 14) (.int 0)) (.cons (.idx (.var 14) (.int 1)) .nil))) (.var 10)) (.cons (.ret (.bool false)) .nil) .nil) (.cons (.ite (.cmp .ne (.call "collected_by_sweeping" (.cons (.var 15) (.cons (.var 3) .nil))) (.var 11)) (.cons (.ret (.bool false)) .nil) .nil) (.cons (.ite (.cmp .ne (.call "shape_of" (.cons (.var 1) (.cons (.var 3) .nil))) (.var 13)) (.cons (.ret (.bool false)) .nil) .nil) (.cons (.ite (.cmp .ne (.call "shape_of" (.cons (.var 15) (.cons (.var 3) .nil))) (.var 13)) (.cons (.ret (.bool false)) .nil) .nil) (.cons (.ite (.cmp .ne (.call "shape_of" (.cons (.idx (.var 14) (.int 0)) (.cons (.idx (.var 14) (.int 1)) .nil))) (.var 13)) (.cons (.ret (.bool false)) .nil) .nil) (.cons (.ite (.cmp .ne (.call "free_words" (.cons (.idx (.var 14) (.int 0)) .nil)) (.bin .sub (.var 4) (.var 9))) (.cons (.ret (.bool false)) .nil) .nil) (.cons (.ite (.cmp .ne (.call "free_words" (.cons (.var 15) .nil)) (.bin .sub (.var 4) (.var 9))) (.cons (.ret (.bool false)) .nil) .nil) (.cons (.for1 16 (.seq (.lst (.cons (.bin .mul (.lst (.cons (.int 0) .nil)) (.var 5)) (.cons (.slc (.idx (.var 10) (.int 1)) .non (.var 5)) .nil)))) l_law_1) (.cons (.for1 16 (.seq (.lst (.cons (.bin .mul (.lst (.cons (.int 0) .nil)) (.var 5)) (.cons (.slc (.var 7) .non (.var 5)) .nil)))) l_law_2) (.cons (.laid (.bin .add (.var 1) (.lst (.cons (.int 1) .nil))) (.bin .mul (.lst (.cons (.int 0) .nil)) (.var 5)) (.str (PySem.Str.ofString "untiled"))) (.cons (.assign 17 (.bin .mul (.lst (.cons (.int 0) .nil)) (.var 4))) (.cons (.assign 18 (.bin .mul (.lst (.cons (.neg (.int 1)) .nil)) (.var 4))) (.cons (.assignO 19 (.call "forwarded" (.cons (.var 1) (.cons (.var 17) (.cons (.var 18) (.cons (.int 0) (.cons (.idx (.var 3) (.int 0)) .nil))))))) (.cons (.ite (.cmp .ne (.idx (.var 19) (.int 3)) (.idx (.idx (.var 10) (.int 1)) (.int 0))) (.cons (.ret (.bool false)) .nil) .nil) (.cons (.ite (.or (.cmp .ne (.var 17) (.bin .mul (.lst (.cons (.int 0) .nil)) (.var 4))) (.cmp .ne (.var 18) (.bin .mul (.lst (.cons (.neg (.int 1)) .nil)) (.var 4)))) (.cons (.ret (.bool false)) .nil) .nil) (.cons (.ite (.or (.cmp .ne (.var 14) (.var 10)) (.cmp .ne (.var 15) (.var 11))) (.cons (.ret (.bool false)) .nil) .nil) (.cons (.ite (.or (.cmp .ne (.var 1) (.var 6)) (.cmp .ne (.var 3) (.var 7))) (.cons (.ret (.bool false)) .nil) .nil) (.cons (.ret (.bool true)) .nil))))))))))))))))))))))))))))))))
end Mine

namespace Mine
open PySem

noncomputable def sto0 (nvars : Nat) (ds : List D) : Sto := ds.map (fun d => some (.val d)) ++ List.replicate (nvars - ds.length) none

inductive AR where
  | ret (d : D)
  | val
  | oom
noncomputable def AR.toD : AR → D
  | .ret d => d
  | .val => .str (Str.ofString "untiled")
  | .oom => .str (Str.ofString "oom")

noncomputable def allocM (Γ : Gam) (fuel : Nat) (dm df : D) : Option AR :=
  (exec Γ (fun _ => none) fuel a_alloc0 (sto0 vs_allocate.length [dm, df])).bind fun o => match o with
    | .next σ1 => (evT Γ (.cmp .isnone (.var 2) .non) σ1).bind fun c => if c then some .val else
        (exec Γ (fun _ => none) fuel a_alloc2 σ1).bind fun o => match o with
          | .next σ2 => (exec Γ (fun _ => none) fuel a_alloc3 σ2).bind fun o => match o with
              | .next σ3 => (ev Γ e_alloc σ3).map fun _ => .oom
              | .ret r => r.toD?.map .ret
              | _ => none
          | _ => none
    | _ => none

noncomputable def tab : String → Option (Ss × List Str × Nat)
  | "is_pointer" => some (b_is_pointer, vs_is_pointer, 1)
  | "pointer_to" => some (b_pointer_to, vs_pointer_to, 1)
  | "address_of" => some (b_address_of, vs_address_of, 1)
  | "blocks_of" => some (b_blocks_of, vs_blocks_of, 1)
  | "free_words" => some (b_free_words, vs_free_words, 1)
  | "fields_of" => some (b_fields_of, vs_fields_of, 2)
  | "reachable" => some (b_reachable, vs_reachable, 2)
  | "swept" => some (b_swept, vs_swept, 2)
  | "collected_by_sweeping" => some (b_collected_by_sweeping, vs_collected_by_sweeping, 2)
  | "forwarded" => some (b_forwarded, vs_forwarded, 5)
  | "collected_by_copying" => some (b_collected_by_copying, vs_collected_by_copying, 2)
  | "shape_of" => some (b_shape_of, vs_shape_of, 2)
  | "_law_cell" => some (b_law_cell, vs_law_cell, 2)
  | "_law_word" => some (b_law_word, vs_law_word, 2)
  | "_law_built" => some (b_law_built, vs_law_built, 1)
  | "_law_reach" => some (b_law_reach, vs_law_reach, 2)
  | "_law_mend" => some (b_law_mend, vs_law_mend, 2)
  | "_law_copy_due" => some (b_law_copy_due, vs_law_copy_due, 4)
  | "_law_sweep_due" => some (b_law_sweep_due, vs_law_sweep_due, 3)
  | "_law_shape_due" => some (b_law_shape_due, vs_law_shape_due, 3)
  | "_law_laid_due" => some (b_law_laid_due, vs_law_laid_due, 3)
  | _ => none

/-- the functions, to a depth -/
noncomputable def Gt : Nat → Gam
  | 0 => fun _ _ => none
  | n + 1 => fun f ds => match tab f with
    | some (b, vs, k) => if ds.length = k then run (Gt n) (fun _ => none) 100 b vs.length ds else none
    | none => none

noncomputable def Lt : List D → Option D
  | [dm, df] => (allocM (Gt 1) 100 dm df).map AR.toD
  | _ => none

noncomputable def lawM (script : List Int) : Option O := execs (Gt 3) Lt 100 b_law (sto0 vs_law.length [.lst (dints script)])
end Mine

namespace Mine
open PySem

abbrev Ext (h h' : Heap) : Prop := ∀ b o, h.get? b = some o → h'.get? b = some o
abbrev lstObj (vs : List Value) (n : Nat) : Obj := { cls := .type "list", dict := none, data := .seq vs.toArray n, slots := #[] }
abbrev tupObj (vs : List Value) (n : Nat) : Obj := { cls := .type "tuple", dict := none, data := .seq vs.toArray n, slots := #[] }
def Dat (o : Obj) : Prop := o.cls = .type "list" ∨ o.cls = .type "tuple" ∨ o.cls = .type "dict"

section
variable (prog : Program) (w : World)
mutual
inductive Rep (h : Heap) (U : Addr → Prop) : Value → D → Prop
  | non : Rep h U .none .non
  | bool (b : Bool) : Rep h U (.bool b) (.bool b)
  | int (i : Int) (t : Tok) : Rep h U (.int i t) (.int i)
  | str (x : Str) (t : Tok) : Rep h U (.str x t) (.str x)
  | tup {a : Addr} {vs : List Value} {n : Nat} {ds : List D} : ¬ U a → h.get? a = some (tupObj vs n) → Reps h U vs ds → Rep h U (.ref a) (.tup ds)
  | lst {a : Addr} {vs : List Value} {n : Nat} {ds : List D} : ¬ U a → h.get? a = some (lstObj vs n) → Reps h U vs ds → Rep h U (.ref a) (.lst ds)
  | dic {a : Addr} {kvs : List (Int × Value)} {ks : List Int} {vs : List Value} {ds : List D} : ¬ U a → (a == sysModules) = false → h.DictOf (intKind prog w) a kvs → kvs.map (·.1) = ks → kvs.map (·.2) = vs → Reps h U vs ds → Rep h U (.ref a) (.dic ks ds)
inductive Reps (h : Heap) (U : Addr → Prop) : List Value → List D → Prop
  | nil : Reps h U [] []
  | cons {v : Value} {vs : List Value} {d : D} {ds : List D} : Rep h U v d → Reps h U vs ds → Reps h U (v :: vs) (d :: ds)
end
end

section
variable {prog : Program} {w : World} {h h' : Heap} {U U' : Addr → Prop}

theorem dictOf_dat {a : Addr} {kvs : List (Int × Value)} (x : h.DictOf (intKind prog w) a kvs) : ∃ o, h.get? a = some o ∧ Dat o := by
  obtain ⟨o, es, ep, ho, hc, _⟩ := x
  exact ⟨o, ho, .inr (.inr hc.1)⟩
theorem dictOf_at {a : Addr} {kvs : List (Int × Value)} (x : h.DictOf (intKind prog w) a kvs) (hk : ∀ o, h.get? a = some o → Dat o → h'.get? a = some o) : h'.DictOf (intKind prog w) a kvs := by
  obtain ⟨o, es, ep, ho, hc, r⟩ := x
  exact ⟨o, es, ep, hk o ho (.inr (.inr hc.1)), hc, r⟩

theorem Reps.move (hk : ∀ a o, ¬ U a → h.get? a = some o → Dat o → h'.get? a = some o) (hU : ∀ a o, ¬ U a → h.get? a = some o → Dat o → ¬ U' a) {vs : List Value} {ds : List D} (x : Reps prog w h U vs ds) : Reps prog w h' U' vs ds :=
  Reps.rec (motive_1 := fun v d _ => Rep prog w h' U' v d) (motive_2 := fun vs ds _ => Reps prog w h' U' vs ds) .non .bool .int .str
    (fun u g _ r => .tup (hU _ _ u g (.inr (.inl rfl))) (hk _ _ u g (.inr (.inl rfl))) r) (fun u g _ r => .lst (hU _ _ u g (.inl rfl)) (hk _ _ u g (.inl rfl)) r)
    (fun u n g e1 e2 _ r => .dic (by obtain ⟨o, ho, hd⟩ := dictOf_dat g; exact hU _ o u ho hd) n (dictOf_at g fun o => hk _ o u) e1 e2 r) .nil (fun _ _ a r => .cons a r) x
theorem Rep.move (hk : ∀ a o, ¬ U a → h.get? a = some o → Dat o → h'.get? a = some o) (hU : ∀ a o, ¬ U a → h.get? a = some o → Dat o → ¬ U' a) {v : Value} {d : D} (x : Rep prog w h U v d) : Rep prog w h' U' v d := by
  have y := Reps.move (vs := [v]) (ds := [d]) hk hU (.cons x .nil)
  cases y with
  | cons a _ => exact a

theorem Rep.ext {v : Value} {d : D} (x : Rep prog w h U v d) (hk : Ext h h') : Rep prog w h' U v d := x.move (fun a o _ e _ => hk a o e) fun _ _ u _ _ => u
theorem Reps.ext {vs : List Value} {ds : List D} (x : Reps prog w h U vs ds) (hk : Ext h h') : Reps prog w h' U vs ds := x.move (fun a o _ e _ => hk a o e) fun _ _ u _ _ => u
theorem Rep.less {v : Value} {d : D} (x : Rep prog w h U v d) (hU : ∀ a, U' a → U a) : Rep prog w h U' v d := x.move (fun _ _ _ e _ => e) fun a _ u _ _ q => u (hU a q)
theorem Reps.less {vs : List Value} {ds : List D} (x : Reps prog w h U vs ds) (hU : ∀ a, U' a → U a) : Reps prog w h U' vs ds := x.move (fun _ _ _ e _ => e) fun a _ u _ _ q => u (hU a q)

theorem Reps.length {vs : List Value} {ds : List D} (x : Reps prog w h U vs ds) : vs.length = ds.length := by
  induction vs generalizing ds with
  | nil => cases x; rfl
  | cons v vs ih => cases x with | cons _ r => simp [ih r]
theorem Reps.append {vs ws : List Value} {ds es : List D} (x : Reps prog w h U vs ds) (y : Reps prog w h U ws es) : Reps prog w h U (vs ++ ws) (ds ++ es) := by
  induction vs generalizing ds with
  | nil => cases x; exact y
  | cons v vs ih => cases x with | cons a r => exact .cons a (ih r)
theorem Reps.get {vs : List Value} {ds : List D} (x : Reps prog w h U vs ds) {k : Nat} {d : D} (hk : ds[k]? = some d) : ∃ v, vs[k]? = some v ∧ Rep prog w h U v d := by
  induction vs generalizing ds k with
  | nil => cases x; simp at hk
  | cons v vs ih =>
    cases x with
    | cons a r =>
      cases k with
      | zero => simp at hk; subst hk; exact ⟨v, rfl, a⟩
      | succ k => exact ih r (by simpa using hk)
theorem Reps.getv {vs : List Value} {ds : List D} (x : Reps prog w h U vs ds) {k : Nat} {v : Value} (hk : vs[k]? = some v) : ∃ d, ds[k]? = some d ∧ Rep prog w h U v d := by
  induction vs generalizing ds k with
  | nil => simp at hk
  | cons u vs ih =>
    cases x with
    | cons a r =>
      cases k with
      | zero => simp at hk; subst hk; exact ⟨_, rfl, a⟩
      | succ k => exact ih r (by simpa using hk)
theorem Reps.set {vs : List Value} {ds : List D} {v : Value} {d : D} (x : Reps prog w h U vs ds) (y : Rep prog w h U v d) (k : Nat) : Reps prog w h U (vs.set k v) (ds.set k d) := by
  induction vs generalizing ds k with
  | nil => cases x; exact .nil
  | cons u vs ih =>
    cases x with
    | cons a r =>
      cases k with
      | zero => exact .cons y r
      | succ k => exact .cons a (ih r k)
theorem Reps.take {vs : List Value} {ds : List D} (x : Reps prog w h U vs ds) (k : Nat) : Reps prog w h U (vs.take k) (ds.take k) := by
  induction vs generalizing ds k with
  | nil => cases x; simpa using .nil
  | cons u vs ih =>
    cases x with
    | cons a r =>
      cases k with
      | zero => exact .nil
      | succ k => exact .cons a (ih r k)
theorem Reps.drop {vs : List Value} {ds : List D} (x : Reps prog w h U vs ds) (k : Nat) : Reps prog w h U (vs.drop k) (ds.drop k) := by
  induction vs generalizing ds k with
  | nil => cases x; simpa using .nil
  | cons u vs ih =>
    cases x with
    | cons a r =>
      cases k with
      | zero => exact .cons a r
      | succ k => exact ih r k
theorem Reps.replicate {v : Value} {d : D} (x : Rep prog w h U v d) (k : Nat) : Reps prog w h U (List.replicate k v) (List.replicate k d) := by
  induction k with
  | zero => exact .nil
  | succ k ih => exact .cons x ih
end

-- what a name holds
section
variable (prog : Program) (w : World)
inductive CS (h : Heap) (U : Addr → Prop) : List Value → List C → List Addr → Prop
  | nil : CS h U [] [] []
  | val {v vs d cs fp} : Rep prog w h U v d → CS h U vs cs fp → CS h U (v :: vs) (.val d :: cs) fp
  | own {a vs cs fp ws n xs} : h.get? a = some (lstObj ws n) → Reps prog w h U ws xs → CS h U vs cs fp → CS h U (.ref a :: vs) (.own xs :: cs) (a :: fp)
  | gone {v vs cs fp} : CS h U vs cs fp → CS h U (v :: vs) (.gone :: cs) fp
inductive RS (h : Heap) (U : Addr → Prop) : Value → R → List Addr → Prop
  | val {v d} : Rep prog w h U v d → RS h U v (.val d) []
  | own {a vs n xs} : h.get? a = some (lstObj vs n) → Reps prog w h U vs xs → RS h U (.ref a) (.own xs) [a]
  | tup {a vs n cs fp} : ¬ U a → h.get? a = some (tupObj vs n) → CS prog w h U vs cs fp → RS h U (.ref a) (.tup cs) fp
end

section
variable {prog : Program} {w : World} {h h' : Heap} {U U' : Addr → Prop}
theorem CS.move {vs : List Value} {cs : List C} {fp : List Addr} (x : CS prog w h U vs cs fp) (hk : ∀ a o, ¬ U a → h.get? a = some o → Dat o → h'.get? a = some o) (hU : ∀ a o, ¬ U a → h.get? a = some o → Dat o → ¬ U' a) (hf : ∀ a ∈ fp, ∀ o, h.get? a = some o → h'.get? a = some o) :
    CS prog w h' U' vs cs fp := by
  induction x with
  | nil => exact .nil
  | val a _ ih => exact .val (a.move hk hU) (ih hf)
  | own g r _ ih => exact .own (hf _ (.head _) _ g) (r.move hk hU) (ih fun a ha => hf a (.tail _ ha))
  | gone _ ih => exact .gone (ih hf)
theorem RS.move {v : Value} {r : R} {fp : List Addr} (x : RS prog w h U v r fp) (hk : ∀ a o, ¬ U a → h.get? a = some o → Dat o → h'.get? a = some o) (hU : ∀ a o, ¬ U a → h.get? a = some o → Dat o → ¬ U' a) (hf : ∀ a ∈ fp, ∀ o, h.get? a = some o → h'.get? a = some o) :
    RS prog w h' U' v r fp := by
  cases x with
  | val a => exact .val (a.move hk hU)
  | own g r => exact .own (hf _ (.head _) _ g) (r.move hk hU)
  | tup u g c => exact .tup (hU _ _ u g (.inr (.inl rfl))) (hk _ _ u g (.inr (.inl rfl))) (c.move hk hU hf)
theorem RS.ext {v : Value} {r : R} {fp : List Addr} (x : RS prog w h U v r fp) (hk : Ext h h') : RS prog w h' U v r fp := x.move (fun a o _ e _ => hk a o e) (fun _ _ u _ _ => u) fun a _ o e => hk a o e

theorem CS.here {vs : List Value} {cs : List C} {fp : List Addr} (x : CS prog w h U vs cs fp) : ∀ a ∈ fp, ∃ o, h.get? a = some o ∧ Dat o := by
  induction x with
  | nil => intro a ha; cases ha
  | val _ _ ih => exact ih
  | own g _ _ ih =>
    intro a ha
    rcases List.mem_cons.mp ha with rfl | ha
    · exact ⟨_, g, .inl rfl⟩
    · exact ih a ha
  | gone _ ih => exact ih
theorem RS.here {v : Value} {r : R} {fp : List Addr} (x : RS prog w h U v r fp) : ∀ a ∈ fp, ∃ o, h.get? a = some o ∧ Dat o := by
  cases x with
  | val _ => intro a ha; cases ha
  | own g _ => intro a ha; rw [List.mem_singleton.mp ha]; exact ⟨_, g, .inl rfl⟩
  | tup _ _ c => exact c.here

/-- looked at, whatever is owned -/
theorem CS.look {vs : List Value} {cs : List C} {fp : List Addr} (x : CS prog w h U vs cs fp) (hU : ∀ a o, ¬ U a → h.get? a = some o → Dat o → ¬ U' a) (hf : ∀ a ∈ fp, ¬ U' a) : ∀ {ds : List D}, cds cs = some ds → Reps prog w h U' vs ds := by
  induction x with
  | nil => intro ds e; simp [cds] at e; subst e; exact .nil
  | @val v vs d cs fp a _ ih =>
    intro ds e
    simp only [cds, C.toD?, Option.bind_eq_bind, Option.bind_some, Option.pure_def] at e
    cases hc : cds cs with
    | none => rw [hc] at e; simp at e
    | some l => rw [hc] at e; simp at e; subst e; exact .cons (a.move (fun _ _ _ e _ => e) hU) (ih hf hc)
  | @own a vs cs fp ws n xs g r _ ih =>
    intro ds e
    simp only [cds, C.toD?, Option.bind_eq_bind, Option.bind_some, Option.pure_def] at e
    cases hc : cds cs with
    | none => rw [hc] at e; simp at e
    | some l => rw [hc] at e; simp at e; subst e; exact .cons (.lst (hf _ (.head _)) g (r.move (fun _ _ _ e _ => e) hU)) (ih (fun a ha => hf a (.tail _ ha)) hc)
  | gone _ ih => intro ds e; simp [cds, C.toD?] at e
theorem RS.look {v : Value} {r : R} {fp : List Addr} {d : D} (x : RS prog w h U v r fp) (e : r.toD? = some d) (hU : ∀ a o, ¬ U a → h.get? a = some o → Dat o → ¬ U' a) (hf : ∀ a ∈ fp, ¬ U' a) : Rep prog w h U' v d := by
  cases x with
  | val a => simp [R.toD?] at e; subst e; exact a.move (fun _ _ _ e _ => e) hU
  | own g r => simp [R.toD?] at e; subst e; exact .lst (hf _ (.head _)) g (r.move (fun _ _ _ e _ => e) hU)
  | @tup a vs n cs fp u g c =>
    simp only [R.toD?, Option.map_eq_some_iff] at e
    obtain ⟨ds, e1, rfl⟩ := e
    exact .tup (hU _ _ u g (.inr (.inl rfl))) g (c.look hU hf e1)
end
end Mine

namespace Mine
open PySem

def St (s s' : Shared) : Prop := ∃ h' tk, s' = { s with heap := h', toks := tk }
theorem St.refl (s : Shared) : St s s := ⟨s.heap, s.toks, rfl⟩
theorem St.trans {a b c : Shared} (x : St a b) (y : St b c) : St a c := by
  obtain ⟨h, t, rfl⟩ := x
  obtain ⟨h', t', rfl⟩ := y
  exact ⟨h', t', rfl⟩
theorem St.mk' (s : Shared) (h' : Heap) (tk : Nat) : St s { s with heap := h', toks := tk } := ⟨h', tk, rfl⟩

def Fx (env : Env) (a : Addr) : Prop := a = env.locals ∨ ∃ n, (n, a) ∈ env.cells

structure FS (env : Env) (vars : List Str) : Prop where
  kf : env.scope.kind = .function
  nodup : vars.Nodup
  kind : ∀ x ∈ vars, env.kindOf x = some .local ∨ (env.kindOf x = some .cell ∧ ∃ c, env.cells.lookup x = some c)
  apart : env.cells.Pairwise fun x y => x.2 ≠ y.2
  loc : ∀ n c, (n, c) ∈ env.cells → c ≠ env.locals

/-- a name read -/
def Loads (env : Env) (x : Str) (h : Heap) (v : Value) : Prop :=
  (env.kindOf x = some .local ∧ ∃ m, h.Ns env.locals m ∧ m x = some v) ∨ (env.kindOf x = some .cell ∧ ∃ c, env.cells.lookup x = some c ∧ h.IsCell c (some v))
theorem Loads.ext {env : Env} {x : Str} {h h' : Heap} {v : Value} (l : Loads env x h v) (e : Ext h h') : Loads env x h' v := by
  rcases l with ⟨a, m, n, b⟩ | ⟨a, c, b, d⟩
  · exact .inl ⟨a, m, n.keeps e, b⟩
  · exact .inr ⟨a, c, b, d.keeps e⟩
theorem Loads.wp {M : Model} {A : Around} {E : Value → Shared → Prop} {s : Shared} {env : Env} {x : Str} {v : Value} {Q : Value → Shared → Prop} (hk : env.scope.kind = .function) (l : Loads env x s.heap v) (h : Q v s) : wpAny M A (loadName env x) Q E s := by
  rcases l with ⟨a, m, n, b⟩ | ⟨a, c, b, d⟩
  · exact wpAny_loadName_local hk a n b h
  · exact wpAny_loadName_cell hk a b d h

structure FrV (env : Env) (vars : List Str) (h : Heap) (val : Nat → Option Value) : Prop where
  ns : ∃ m, h.Ns env.locals m ∧ ∀ i x, vars[i]? = some x → env.kindOf x = some .local → m x = val i
  cl : ∀ i x c, vars[i]? = some x → env.kindOf x = some .cell → env.cells.lookup x = some c → h.IsCell c (val i)
  ex : ∀ n c, (n, c) ∈ env.cells → ∃ o, h.get? c = some o

theorem nodup_idx {α : Type} {l : List α} (h : l.Nodup) {i j : Nat} {x : α} (hi : l[i]? = some x) (hj : l[j]? = some x) : i = j :=
  (List.getElem?_inj (List.getElem?_eq_some_iff.mp hi).1 h).mp (hi.trans hj.symm)

section
variable {M : Model} {A : Around} {E : Value → Shared → Prop} {s : Shared} {env : Env} {vars : List Str} {h h' : Heap} {val : Nat → Option Value}

theorem FrV.ext (V : FrV env vars h val) (e : Ext h h') : FrV env vars h' val := by
  obtain ⟨⟨m, a, b⟩, c, d⟩ := V
  exact ⟨⟨m, a.keeps e, b⟩, fun i x cc p q r => (c i x cc p q r).keeps e, fun n c q => let ⟨o, g⟩ := d n c q; ⟨o, e _ _ g⟩⟩
theorem FrV.keep (V : FrV env vars h val) (e : ∀ b o, Fx env b → h.get? b = some o → h'.get? b = some o) : FrV env vars h' val := by
  obtain ⟨⟨m, ⟨o, es, ep, ho, r⟩, b⟩, c, d⟩ := V
  refine ⟨⟨m, ⟨o, es, ep, e _ _ (.inl rfl) ho, r⟩, b⟩, fun i x cc p q r => ?_, fun n c q => let ⟨o, g⟩ := d n c q; ⟨o, e _ _ (.inr ⟨n, q⟩) g⟩⟩
  obtain ⟨o, ho, hd⟩ := c i x cc p q r
  exact ⟨o, e _ _ (.inr ⟨x, mem_of_lookup r⟩) ho, hd⟩
theorem FrV.there (V : FrV env vars h val) {a : Addr} (f : Fx env a) : ∃ o, h.get? a = some o := by
  rcases f with rfl | ⟨n, f⟩
  · obtain ⟨m, ⟨o, es, ep, ho, r⟩, b⟩ := V.ns
    exact ⟨o, ho⟩
  · exact V.ex n a f
theorem FrV.loads (F : FS env vars) (V : FrV env vars h val) {i : Nat} {x : Str} {v : Value} (hx : vars[i]? = some x) (hv : val i = some v) : Loads env x h v := by
  rcases F.kind x (List.mem_of_getElem? hx) with k | ⟨k, c, l⟩
  · obtain ⟨m, a, b⟩ := V.ns
    exact .inl ⟨k, m, a, (b i x hx k).trans hv⟩
  · exact .inr ⟨k, c, l, hv ▸ V.cl i x c hx k l⟩

theorem FrV.store (F : FS env vars) (V : FrV env vars s.heap val) {i : Nat} {x : Str} {v : Value} {Q : Unit → Shared → Prop} (hx : vars[i]? = some x)
    (k : ∀ h' tk, FrV env vars h' (fun j => if j = i then some v else val j) → (∀ b o, ¬ Fx env b → s.heap.get? b = some o → h'.get? b = some o) → Q () { s with heap := h', toks := tk }) :
    wpAny M A (storeName env x v) Q E s := by
  rcases F.kind x (List.mem_of_getElem? hx) with kd | ⟨kd, c, l⟩
  · obtain ⟨m, a, b⟩ := V.ns
    refine wpAny_storeName_local kd a (fun h' hn hs => k h' _ ⟨⟨_, hn, fun j y hy ky => ?_⟩, fun j y c hy ky ly => ?_, fun n c q => ?_⟩ fun b o nb e => ?_) (by rw [F.kf]; rfl)
    · by_cases hj : j = i
      · subst hj
        rw [hx] at hy
        cases hy
        simp
      · have : ¬ y = x := fun e => hj (nodup_idx F.nodup hy (e ▸ hx))
        rw [if_neg this, if_neg hj]
        exact b j y hy ky
    · have hj : ¬ j = i := by
        rintro rfl
        rw [hx] at hy
        cases hy
        rw [kd] at ky
        cases ky
      rw [if_neg hj]
      exact (V.cl j y c hy ky ly).sameBut hs (F.loc y c (mem_of_lookup ly))
    · obtain ⟨o, g⟩ := V.ex n c q
      exact ⟨o, (hs.2 c (F.loc n c q)).trans g⟩
    · exact (hs.2 b fun e => nb (.inl e)).trans e
  · refine wpAny_storeName_cell F.kf kd l (V.cl i x c hx kd l) fun h' hv hs => k h' s.toks ⟨?_, fun j y c' hy ky ly => ?_, fun n c' q => ?_⟩ fun b o nb e => ?_
    · obtain ⟨m, a, b⟩ := V.ns
      refine ⟨m, a.sameBut hs (Ne.symm (F.loc x c (mem_of_lookup l))), fun j y hy ky => ?_⟩
      have hj : ¬ j = i := by
        rintro rfl
        rw [hx] at hy
        cases hy
        rw [kd] at ky
        cases ky
      rw [if_neg hj]
      exact b j y hy ky
    · by_cases hj : j = i
      · subst hj
        rw [hx] at hy
        cases hy
        rw [l] at ly
        cases ly
        simpa using hv
      · rw [if_neg hj]
        have hn : ¬ y = x := fun e => hj (nodup_idx F.nodup hy (e ▸ hx))
        have hcc : c' ≠ c := fun q => hn (name_of_addr F.apart (mem_of_lookup ly) (q ▸ mem_of_lookup l))
        exact (V.cl j y c' hy ky ly).sameBut hs hcc
    · by_cases hc : c' = c
      · obtain ⟨o, g, _⟩ := hv
        exact ⟨o, hc ▸ g⟩
      · obtain ⟨o, g⟩ := V.ex n c' q
        exact ⟨o, (hs.2 c' hc).trans g⟩
    · exact (hs.2 b fun e => nb (.inr ⟨x, e ▸ mem_of_lookup l⟩)).trans e
end

/-- what holds between two statements of a frame -/
structure Inv (prog : Program) (w : World) (env : Env) (vars : List Str) (base : Heap) (X M : Addr → Prop) (σ : Sto) (h : Heap) (val : Nat → Option Value) (fp : Nat → List Addr) : Prop where
  len : σ.length = vars.length
  frv : FrV env vars h val
  rep : ∀ i r, rd σ i = some r → ∃ v, val i = some v ∧ RS prog w h (fun a => X a ∨ M a) v r (fp i)
  non : ∀ i, rd σ i = none → fp i = []
  mem : ∀ a, M a ↔ Fx env a ∨ ∃ i, a ∈ fp i
  off : ∀ i a, a ∈ fp i → ¬ Fx env a
  one : ∀ i j a, a ∈ fp i → a ∈ fp j → i = j
  nod : ∀ i, (fp i).Nodup
  new : ∀ a, M a → base.get? a = none
  bas : Ext base h
  old : ∀ a, X a → (∃ o, h.get? a = some o) ∧ ¬ M a

/-- what an expression may read -/
def Rd (prog : Program) (w : World) (env : Env) (vars : List Str) (U : Addr → Prop) (σ : Sto) (h : Heap) : Prop :=
  ∀ i x r, vars[i]? = some x → (env.kindOf x = some .local ∨ env.kindOf x = some .cell) → rd σ i = some r → ∃ v fp, Loads env x h v ∧ RS prog w h U v r fp

/-- a value made since h₀ -/
def RX (prog : Program) (w : World) (h₀ h : Heap) (U : Addr → Prop) (v : Value) (r : R) : Prop :=
  ∃ fn, RS prog w h (fun a => U a ∨ a ∈ fn) v r fn ∧ (∀ a ∈ fn, h₀.get? a = none) ∧ fn.Nodup

theorem rd_lt {σ : Sto} {i : Nat} {r : R} (h : rd σ i = some r) : i < σ.length := by
  unfold rd at h
  cases e : σ[i]? with
  | none => rw [e] at h; cases h
  | some x => exact (List.getElem?_eq_some_iff.mp e).1
theorem rd_put {σ : Sto} {i j : Nat} {r : R} (hi : i < σ.length) : rd (put σ i r) j = if j = i then some r else rd σ j := by
  unfold rd put
  rw [List.getElem?_set]
  by_cases h : i = j
  · subst h; simp [hi]
  · rw [if_neg h, if_neg (Ne.symm h)]
theorem len_put (σ : Sto) (i : Nat) (r : R) : (put σ i r).length = σ.length := by simp [put]

section
variable {prog : Program} {w : World} {env : Env} {vars : List Str} {base h h₁ h₂ : Heap} {X M : Addr → Prop} {σ : Sto} {val : Nat → Option Value} {fp : Nat → List Addr}

theorem Rd.ext {U : Addr → Prop} (x : Rd prog w env vars U σ h) (e : Ext h h₁) : Rd prog w env vars U σ h₁ := fun i y r a b c => by
  obtain ⟨v, fp, l, s⟩ := x i y r a b c
  exact ⟨v, fp, l.ext e, s.ext e⟩
theorem fresh_none {h h' : Heap} {a : Addr} (e : Ext h h') (n : h'.get? a = none) : h.get? a = none := by
  cases q : h.get? a with
  | none => rfl
  | some o => rw [e a o q] at n; cases n
/-- a new address is in no value that was there -/
theorem Rd.fresh {U : Addr → Prop} {F : Addr → Prop} (x : Rd prog w env vars U σ h) (hF : ∀ a, F a → h.get? a = none) : Rd prog w env vars (fun a => U a ∨ F a) σ h := fun i y r a b c => by
  obtain ⟨v, fp, l, s⟩ := x i y r a b c
  exact ⟨v, fp, l, s.move (fun _ _ _ e _ => e) (fun a o u e _ q => q.elim u fun f => by rw [hF a f] at e; cases e) fun _ _ _ e => e⟩

theorem Inv.reads (F : FS env vars) (I : Inv prog w env vars base X M σ h val fp) : Rd prog w env vars (fun a => X a ∨ M a) σ h := fun i x r a _ c => by
  obtain ⟨v, e, s⟩ := I.rep i r c
  exact ⟨v, fp i, I.frv.loads F a e, s⟩

/-- nothing of the frame's own has turned -/
theorem Inv.ext (I : Inv prog w env vars base X M σ h val fp) (e : Ext h h₁) : Inv prog w env vars base X M σ h₁ val fp :=
  ⟨I.len, I.frv.ext e, fun i r q => let ⟨v, a, b⟩ := I.rep i r q; ⟨v, a, b.ext e⟩, I.non, I.mem, I.off, I.one, I.nod, I.new, fun b o q => e b o (I.bas b o q), fun a q => ⟨let ⟨o, g⟩ := (I.old a q).1; ⟨o, e _ _ g⟩, (I.old a q).2⟩⟩
/-- all kept, but the slots of one namespace -/
def KeepBut (L : Addr) (h h' : Heap) : Prop := (∀ b o, b ≠ L → h.get? b = some o → h'.get? b = some o) ∧ ∀ o, h.get? L = some o → ∃ sl, h'.get? L = some { o with slots := sl }
theorem KeepBut.ns {L : Addr} {h h' : Heap} {m : Str → Option Value} (k : KeepBut L h h') (n : h.Ns L m) : h'.Ns L m := by
  obtain ⟨o, es, ep, ho, r⟩ := n
  obtain ⟨sl, hs⟩ := k.2 o ho
  exact ⟨_, es, ep, hs, r⟩
theorem Inv.slots (F : FS env vars) (I : Inv prog w env vars base X M σ h val fp) (k : KeepBut env.locals h h₁) : Inv prog w env vars base X M σ h₁ val fp := by
  have hL : M env.locals := (I.mem _).mpr (.inl (.inl rfl))
  have hfp : ∀ i a, a ∈ fp i → a ≠ env.locals := fun i a q e => I.off i a q (.inl e)
  refine ⟨I.len, ⟨?_, fun i x c p q r => ?_, fun n c q => ?_⟩, fun i r q => ?_, I.non, I.mem, I.off, I.one, I.nod, I.new, fun b o q => k.1 b o (fun e => ?_) (I.bas b o q), fun a q => ⟨?_, (I.old a q).2⟩⟩
  · obtain ⟨m, n, r⟩ := I.frv.ns
    exact ⟨m, k.ns n, r⟩
  · obtain ⟨o, ho, hd⟩ := I.frv.cl i x c p q r
    exact ⟨o, k.1 c o (F.loc x c (mem_of_lookup r)) ho, hd⟩
  · obtain ⟨o, g⟩ := I.frv.ex n c q
    exact ⟨o, k.1 c o (F.loc n c q) g⟩
  · obtain ⟨v, a, b⟩ := I.rep i r q
    exact ⟨v, a, b.move (fun a o u g _ => k.1 a o (fun e => u (.inr (e ▸ hL))) g) (fun _ _ u _ _ => u) fun a ha o g => k.1 a o (hfp i a ha) g⟩
  · rw [e, I.new _ hL] at q; cases q
  · obtain ⟨o, g⟩ := (I.old a q).1
    exact ⟨o, k.1 a o (fun e => (I.old a q).2 (e ▸ hL)) g⟩
/-- data and the frame kept (an iterator may have turned) -/
theorem Inv.exti (I : Inv prog w env vars base X M σ h val fp) (e : ∀ b o, h.get? b = some o → (Dat o ∨ Fx env b) → h₁.get? b = some o) (eb : Ext base h₁) (ex : ∀ b o, X b → h.get? b = some o → ∃ o', h₁.get? b = some o') : Inv prog w env vars base X M σ h₁ val fp := by
  refine ⟨I.len, I.frv.keep fun b o f q => e b o q (.inr f), fun i r q => ?_, I.non, I.mem, I.off, I.one, I.nod, I.new, eb, fun a q => ⟨let ⟨_, g⟩ := (I.old a q).1; ex _ _ q g, (I.old a q).2⟩⟩
  obtain ⟨v, a, b⟩ := I.rep i r q
  refine ⟨v, a, b.move (fun a o _ q d => e a o q (.inl d)) (fun _ _ u _ _ => u) fun a ha o q => ?_⟩
  obtain ⟨o', q', d⟩ := b.here a ha
  rw [q] at q'
  cases q'
  exact e a o q (.inl d)

/-- a name is stored into -/
theorem Inv.store' (I : Inv prog w env vars base X M σ h val fp) (e : Ext h h₁) {x : Nat} {v : Value} {r : R} {fn : List Addr} (hx : x < vars.length) (R : RS prog w h₁ (fun a => (X a ∨ M a) ∨ a ∈ fn) v r fn)
    (nM : ∀ a ∈ fn, ¬ M a) (nX : ∀ a ∈ fn, ¬ X a) (nb : ∀ a ∈ fn, base.get? a = none) (oth : ∀ i q u, i ≠ x → rd σ i = some q → val i = some u → RS prog w h (fun a => (X a ∨ M a) ∨ a ∈ fn) u q (fp i))
    (nd : fn.Nodup) (V : FrV env vars h₂ (fun j => if j = x then some v else val j)) (kp : ∀ b o, ¬ Fx env b → h₁.get? b = some o → h₂.get? b = some o) :
    Inv prog w env vars base X (fun a => Fx env a ∨ ∃ i, a ∈ (if i = x then fn else fp i)) (put σ x r) h₂ (fun j => if j = x then some v else val j) (fun i => if i = x then fn else fp i) := by
  have hlen : x < σ.length := I.len ▸ hx
  have fFx : ∀ a, Fx env a → M a := fun a f => (I.mem a).mpr (.inl f)
  have apart : ∀ i a, a ∈ fp i → a ∉ fn := fun i a ha hn => nM a hn ((I.mem a).mpr (.inr ⟨i, ha⟩))
  have fnFx : ∀ a ∈ fn, ¬ Fx env a := fun a ha f => nM a ha (fFx a f)
  have up : ∀ b o, ¬ Fx env b → h.get? b = some o → h₂.get? b = some o := fun b o n q => kp b o n (e b o q)
  have sub : ∀ a, (X a ∨ (Fx env a ∨ ∃ i, a ∈ (if i = x then fn else fp i))) → (X a ∨ M a) ∨ a ∈ fn := by
    rintro a (q | q | ⟨i, q⟩)
    · exact .inl (.inl q)
    · exact .inl (.inr (fFx a q))
    · by_cases hi : i = x
      · rw [if_pos hi] at q; exact .inr q
      · rw [if_neg hi] at q; exact .inl (.inr ((I.mem a).mpr (.inr ⟨i, q⟩)))
  refine ⟨by rw [len_put]; exact I.len, V, fun i q hq => ?_, fun i hq => ?_, fun a => Iff.rfl, fun i a ha => ?_, fun i j a ha hb => ?_, fun i => ?_, fun a ha => ?_, fun b o q => ?_, fun a q => ⟨?_, ?_⟩⟩
  · rw [rd_put hlen] at hq
    by_cases hi : i = x
    · rw [if_pos hi] at hq
      cases hq
      rw [if_pos hi, if_pos hi]
      refine ⟨v, rfl, R.move (fun a o u q _ => kp a o (fun f => u (.inl (.inr (fFx a f)))) q) (fun a o u q _ y => u (sub a y)) fun a ha o q => kp a o (fnFx a ha) q⟩
    · rw [if_neg hi] at hq
      rw [if_neg hi, if_neg hi]
      obtain ⟨u, a, _⟩ := I.rep i q hq
      have b := oth i q u hi hq a
      exact ⟨u, a, b.move (fun a o u q _ => up a o (fun f => u (.inl (.inr (fFx a f)))) q) (fun a o u q _ y => u (sub a y)) fun a ha o q => up a o (I.off i a ha) q⟩
  · rw [rd_put hlen] at hq
    by_cases hi : i = x
    · rw [if_pos hi] at hq; cases hq
    · rw [if_neg hi] at hq; rw [if_neg hi]; exact I.non i hq
  · by_cases hi : i = x
    · rw [if_pos hi] at ha; exact fnFx a ha
    · rw [if_neg hi] at ha; exact I.off i a ha
  · by_cases hi : i = x <;> by_cases hj : j = x
    · rw [hi, hj]
    · rw [if_pos hi] at ha; rw [if_neg hj] at hb; exact absurd ha (apart j a hb)
    · rw [if_neg hi] at ha; rw [if_pos hj] at hb; exact absurd hb (apart i a ha)
    · rw [if_neg hi] at ha; rw [if_neg hj] at hb; exact I.one i j a ha hb
  · by_cases hi : i = x
    · rw [if_pos hi]; exact nd
    · rw [if_neg hi]; exact I.nod i
  · rcases ha with q | ⟨i, q⟩
    · exact I.new a (fFx a q)
    · by_cases hi : i = x
      · rw [if_pos hi] at q; exact nb a q
      · rw [if_neg hi] at q; exact I.new a ((I.mem a).mpr (.inr ⟨i, q⟩))
  · have g := e b o (I.bas b o q)
    refine kp b o (fun f => ?_) g
    have := I.new b (fFx b f)
    rw [q] at this
    cases this
  · obtain ⟨o, g⟩ := (I.old a q).1
    exact ⟨o, kp a o (fun f => (I.old a q).2 (fFx a f)) (e a o g)⟩
  · rintro (f | ⟨i, y⟩)
    · exact (I.old a q).2 (fFx a f)
    · by_cases hi : i = x
      · rw [if_pos hi] at y; exact nX a y q
      · rw [if_neg hi] at y; exact (I.old a q).2 ((I.mem a).mpr (.inr ⟨i, y⟩))

theorem Inv.there (I : Inv prog w env vars base X M σ h val fp) {a : Addr} (ha : M a) : ∃ o, h.get? a = some o ∧ (Fx env a ∨ Dat o) := by
  rcases (I.mem a).mp ha with f | ⟨i, ha⟩
  · obtain ⟨o, q⟩ := I.frv.there f
    exact ⟨o, q, .inl f⟩
  · cases q : rd σ i with
    | none => rw [I.non i q] at ha; cases ha
    | some r => obtain ⟨v, _, b⟩ := I.rep i r q; obtain ⟨o, g, d⟩ := b.here a ha; exact ⟨o, g, .inr d⟩

theorem Inv.store (I : Inv prog w env vars base X M σ h val fp) (e : Ext h h₁) {x : Nat} {v : Value} {r : R} {fn : List Addr} (hx : x < vars.length) (R : RS prog w h₁ (fun a => (X a ∨ M a) ∨ a ∈ fn) v r fn)
    (fresh : ∀ a ∈ fn, h.get? a = none) (nd : fn.Nodup) (V : FrV env vars h₂ (fun j => if j = x then some v else val j)) (kp : ∀ b o, ¬ Fx env b → h₁.get? b = some o → h₂.get? b = some o) :
    Inv prog w env vars base X (fun a => Fx env a ∨ ∃ i, a ∈ (if i = x then fn else fp i)) (put σ x r) h₂ (fun j => if j = x then some v else val j) (fun i => if i = x then fn else fp i) := by
  refine I.store' e hx R (fun a ha m => ?_) (fun a ha q => ?_) (fun a ha => fresh_none I.bas (fresh a ha)) (fun i q u _ hq hu => ?_) nd V kp
  · obtain ⟨o, q, _⟩ := I.there m
    rw [fresh a ha] at q
    cases q
  · obtain ⟨o, g⟩ := (I.old a q).1
    rw [fresh a ha] at g
    cases g
  · obtain ⟨u', hu', b⟩ := I.rep i q hq
    rw [hu] at hu'
    cases hu'
    exact b.move (fun _ _ _ e _ => e) (fun a o u q _ y => y.elim u fun y => by rw [fresh a y] at q; cases q) fun _ _ _ e => e

/-- a list that a name owns is turned -/
theorem Inv.turn (I : Inv prog w env vars base X M σ h val fp) {x : Nat} {xs ys : List D} (hr : rd σ x = some (.own xs)) (a : Addr) (ha : fp x = [a]) {ws : List Value} {n : Nat} (hn : h₁.get? a = some (lstObj ws n)) (ho : ∀ b o, b ≠ a → h.get? b = some o → h₁.get? b = some o)
    (hw : Reps prog w h (fun a => X a ∨ M a) ws ys) : Inv prog w env vars base X M (put σ x (.own ys)) h₁ val fp := by
  have hx := rd_lt hr
  have hm : a ∈ fp x := by rw [ha]; exact .head _
  have aM : M a := (I.mem a).mpr (.inr ⟨x, hm⟩)
  have mv : ∀ b o, ¬ (X b ∨ M b) → h.get? b = some o → Dat o → h₁.get? b = some o := fun b o u q _ => ho b o (fun e => u (.inr (e ▸ aM))) q
  refine ⟨by rw [len_put]; exact I.len, I.frv.keep fun b o f q => ho b o (fun e => I.off x a hm (e ▸ f)) q, fun i r q => ?_, fun i q => ?_, I.mem, I.off, I.one, I.nod, I.new, fun b o q => ho b o (fun e => ?_) (I.bas b o q), fun c q => ⟨let ⟨o, g⟩ := (I.old c q).1; ⟨o, ho c o (fun e => (I.old c q).2 (e ▸ aM)) g⟩, (I.old c q).2⟩⟩
  · rw [rd_put hx] at q
    by_cases hi : i = x
    · rw [if_pos hi] at q
      cases q
      subst hi
      obtain ⟨v, hv, b⟩ := I.rep i _ hr
      rw [ha] at b ⊢
      cases b with
      | own g r => exact ⟨_, hv, .own hn (hw.move mv fun _ _ u _ _ => u)⟩
    · rw [if_neg hi] at q
      obtain ⟨v, hv, b⟩ := I.rep i r q
      exact ⟨v, hv, b.move mv (fun _ _ u _ _ => u) fun c hc o q => ho c o (fun e => hi (I.one i x a (e ▸ hc) hm)) q⟩
  · rw [rd_put hx] at q
    by_cases hi : i = x
    · rw [if_pos hi] at q; cases q
    · rw [if_neg hi] at q; exact I.non i q
  · have := I.new a aM
    rw [← e, q] at this
    cases this

/-- what a name owned is owned no more -/
theorem Inv.freeze (I : Inv prog w env vars base X M σ h val fp) {x : Nat} {r : R} {d : D} (hr : rd σ x = some r) (hd : r.toD? = some d) :
    Inv prog w env vars base X (fun a => Fx env a ∨ ∃ i, a ∈ (if i = x then [] else fp i)) (put σ x (.val d)) h val (fun i => if i = x then [] else fp i) := by
  have hx := rd_lt hr
  have fFx : ∀ a, Fx env a → M a := fun a f => (I.mem a).mpr (.inl f)
  have subM : ∀ a, (Fx env a ∨ ∃ i, a ∈ (if i = x then [] else fp i)) → M a := by
    rintro a (q | ⟨i, q⟩)
    · exact fFx a q
    · by_cases hi : i = x
      · rw [if_pos hi] at q; cases q
      · rw [if_neg hi] at q; exact (I.mem a).mpr (.inr ⟨i, q⟩)
  have sub : ∀ a, (X a ∨ (Fx env a ∨ ∃ i, a ∈ (if i = x then [] else fp i))) → X a ∨ M a := by
    rintro a (q | q | ⟨i, q⟩)
    · exact .inl q
    · exact .inr (fFx a q)
    · by_cases hi : i = x
      · rw [if_pos hi] at q; cases q
      · rw [if_neg hi] at q; exact .inr ((I.mem a).mpr (.inr ⟨i, q⟩))
  refine ⟨by rw [len_put]; exact I.len, I.frv, fun i q hq => ?_, fun i q => ?_, fun a => Iff.rfl, fun i a ha => ?_, fun i j a ha hb => ?_, fun i => ?_, fun a ha => ?_, I.bas, fun a q => ⟨(I.old a q).1, fun y => (I.old a q).2 (subM a y)⟩⟩
  · rw [rd_put hx] at hq
    by_cases hi : i = x
    · rw [if_pos hi] at hq
      cases hq
      rw [if_pos hi]
      subst hi
      obtain ⟨v, hv, b⟩ := I.rep i r hr
      refine ⟨v, hv, .val (b.look hd (fun a o u _ _ y => u (sub a y)) fun a ha y => ?_)⟩
      rcases y with y | y | ⟨j, y⟩
      · exact (I.old a y).2 ((I.mem a).mpr (.inr ⟨i, ha⟩))
      · exact I.off i a ha y
      · by_cases hj : j = i
        · rw [if_pos hj] at y; cases y
        · rw [if_neg hj] at y; exact hj (I.one j i a y ha)
    · rw [if_neg hi] at hq
      rw [if_neg hi]
      obtain ⟨v, hv, b⟩ := I.rep i q hq
      exact ⟨v, hv, b.move (fun _ _ _ e _ => e) (fun a o u _ _ y => u (sub a y)) fun _ _ _ e => e⟩
  · rw [rd_put hx] at q
    by_cases hi : i = x
    · rw [if_pos hi]
    · rw [if_neg hi] at q ⊢; exact I.non i q
  · by_cases hi : i = x
    · rw [if_pos hi] at ha; cases ha
    · rw [if_neg hi] at ha; exact I.off i a ha
  · by_cases hi : i = x
    · rw [if_pos hi] at ha; cases ha
    · by_cases hj : j = x
      · rw [if_pos hj] at hb; cases hb
      · rw [if_neg hi] at ha; rw [if_neg hj] at hb; exact I.one i j a ha hb
  · by_cases hi : i = x
    · rw [if_pos hi]; exact .nil
    · rw [if_neg hi]; exact I.nod i
  · rcases sub a (.inr ha) with q | q
    · rcases ha with f | ⟨i, ha⟩
      · exact I.new a (fFx a f)
      · by_cases hi : i = x
        · rw [if_pos hi] at ha; cases ha
        · rw [if_neg hi] at ha; exact I.new a ((I.mem a).mpr (.inr ⟨i, ha⟩))
    · exact I.new a q

/-- one component is taken out of a tuple that owns it -/
theorem CS.pick {U : Addr → Prop} {vs : List Value} {cs : List C} {fp : List Addr} (c : CS prog w h U vs cs fp) : ∀ {k : Nat} {xs : List D}, cs[k]? = some (.own xs) → fp.Nodup →
    ∃ a ws n fq, vs[k]? = some (.ref a) ∧ h.get? a = some (lstObj ws n) ∧ Reps prog w h U ws xs ∧ CS prog w h U vs (cs.set k .gone) fq ∧ fq.Nodup ∧ a ∉ fq ∧ a ∈ fp ∧ (∀ b ∈ fq, b ∈ fp) ∧ ∀ b ∈ fp, b = a ∨ b ∈ fq := by
  induction c with
  | nil => intro k xs e; simp at e
  | val a c ih =>
    intro k xs e nd
    cases k with
    | zero => simp at e
    | succ k =>
      obtain ⟨a', ws, n, fq, h1, h2, h3, h4, h5⟩ := ih (by simpa using e) nd
      exact ⟨a', ws, n, fq, by simpa using h1, h2, h3, .val a h4, h5⟩
  | gone c ih =>
    intro k xs e nd
    cases k with
    | zero => simp at e
    | succ k =>
      obtain ⟨a', ws, n, fq, h1, h2, h3, h4, h5⟩ := ih (by simpa using e) nd
      exact ⟨a', ws, n, fq, by simpa using h1, h2, h3, .gone h4, h5⟩
  | @own a vs cs fp ws n xs g r c ih =>
    intro k ys e nd
    have nd' := List.nodup_cons.mp nd
    cases k with
    | zero =>
      simp at e
      subst e
      exact ⟨a, ws, n, fp, rfl, g, r, .gone c, nd'.2, nd'.1, .head _, fun b hb => .tail _ hb, fun b hb => List.mem_cons.mp hb⟩
    | succ k =>
      obtain ⟨a', ws', n', fq, h1, h2, h3, h4, h5, h6, h7, h8, h9⟩ := ih (by simpa using e) nd'.2
      refine ⟨a', ws', n', a :: fq, by simpa using h1, h2, h3, .own g r h4, List.nodup_cons.mpr ⟨fun hm => nd'.1 (h8 a hm), h5⟩, fun hm => ?_, .tail _ h7, fun b hb => ?_, fun b hb => ?_⟩
      · rcases List.mem_cons.mp hm with q | q
        · exact nd'.1 (q ▸ h7)
        · exact h6 q
      · rcases List.mem_cons.mp hb with q | q
        · exact q ▸ .head _
        · exact .tail _ (h8 b q)
      · rcases List.mem_cons.mp hb with q | q
        · exact .inr (q ▸ .head _)
        · exact (h9 b q).imp id fun q => .tail _ q

theorem Inv.take (I : Inv prog w env vars base X M σ h val fp) {x y k : Nat} {cs : List C} {xs : List D} (hy : rd σ y = some (.tup cs)) (hk : cs[k]? = some (.own xs)) (hxy : x ≠ y) (hx : x < vars.length) :
    ∃ t vs n a, val y = some (.ref t) ∧ h.get? t = some (tupObj vs n) ∧ vs[k]? = some (.ref a) ∧
      ∀ {h₂ : Heap}, FrV env vars h₂ (fun j => if j = x then some (.ref a) else val j) → (∀ b o, ¬ Fx env b → h.get? b = some o → h₂.get? b = some o) →
        ∃ M' val' fp', Inv prog w env vars base X M' (put (put σ y (.tup (cs.set k .gone))) x (.own xs)) h₂ val' fp' ∧ ∀ b, M' b → M b := by
  obtain ⟨v, hv, b⟩ := I.rep y _ hy
  cases b with
  | @tup t vs n _ _ u g c =>
    obtain ⟨a, ws, n', fq, h1, h2, h3, h4, h5, h6, h7, h8, h9⟩ := c.pick hk (I.nod y)
    refine ⟨t, vs, n, a, hv, g, h1, fun {h₂} V kp => ?_⟩
    have hyl := rd_lt hy
    have aM : M a := (I.mem a).mpr (.inr ⟨y, h7⟩)
    let M1 : Addr → Prop := fun b => Fx env b ∨ ∃ i, b ∈ (if i = y then fq else fp i)
    have sub1 : ∀ b, M1 b → M b := by
      rintro b (q | ⟨i, q⟩)
      · exact (I.mem b).mpr (.inl q)
      · by_cases hi : i = y
        · rw [if_pos hi] at q; exact (I.mem b).mpr (.inr ⟨y, h8 b q⟩)
        · rw [if_neg hi] at q; exact (I.mem b).mpr (.inr ⟨i, q⟩)
    have na : ¬ M1 a := by
      rintro (q | ⟨i, q⟩)
      · exact I.off y a h7 q
      · by_cases hi : i = y
        · rw [if_pos hi] at q; exact h6 q
        · rw [if_neg hi] at q; exact hi (I.one i y a q h7)
    have subs : ∀ b, X b ∨ M1 b → X b ∨ M b := fun b q => q.imp id (sub1 b)
    have subs2 : ∀ b, ((X b ∨ M1 b) ∨ b ∈ [a]) → X b ∨ M b := fun b q => q.elim (subs b) fun q => .inr (List.mem_singleton.mp q ▸ aM)
    have I1 : Inv prog w env vars base X M1 (put σ y (.tup (cs.set k .gone))) h val (fun i => if i = y then fq else fp i) := by
      refine ⟨by rw [len_put]; exact I.len, I.frv, fun i q hq => ?_, fun i q => ?_, fun a => Iff.rfl, fun i a ha => ?_, fun i j a ha hb => ?_, fun i => ?_, fun b hb => I.new b (sub1 b hb), I.bas, fun b q => ⟨(I.old b q).1, fun y => (I.old b q).2 (sub1 b y)⟩⟩
      · rw [rd_put hyl] at hq
        by_cases hi : i = y
        · rw [if_pos hi] at hq
          cases hq
          rw [if_pos hi]
          subst hi
          exact ⟨_, hv, .tup (fun q => u (subs t q)) g (h4.move (fun _ _ _ e _ => e) (fun b o u _ _ q => u (subs b q)) fun _ _ _ e => e)⟩
        · rw [if_neg hi] at hq
          rw [if_neg hi]
          obtain ⟨v, hv, b⟩ := I.rep i q hq
          exact ⟨v, hv, b.move (fun _ _ _ e _ => e) (fun b o u _ _ q => u (subs b q)) fun _ _ _ e => e⟩
      · rw [rd_put hyl] at q
        by_cases hi : i = y
        · rw [if_pos hi] at q; cases q
        · rw [if_neg hi] at q ⊢; exact I.non i q
      · by_cases hi : i = y
        · rw [if_pos hi] at ha; exact I.off y a (h8 a ha)
        · rw [if_neg hi] at ha; exact I.off i a ha
      · by_cases hi : i = y <;> by_cases hj : j = y
        · rw [hi, hj]
        · rw [if_pos hi] at ha; rw [if_neg hj] at hb; exact (hi.trans (I.one y j a (h8 a ha) hb))
        · rw [if_neg hi] at ha; rw [if_pos hj] at hb; exact ((I.one i y a ha (h8 a hb)).trans hj.symm)
        · rw [if_neg hi] at ha; rw [if_neg hj] at hb; exact I.one i j a ha hb
      · by_cases hi : i = y
        · rw [if_pos hi]; exact h5
        · rw [if_neg hi]; exact I.nod i
    refine ⟨_, _, _, I1.store' (h₁ := h) (r := .own xs) (fn := [a]) (fun _ _ e => e) hx (.own h2 (h3.move (fun _ _ _ e _ => e) fun b o u _ _ q => u (subs2 b q))) (fun b hb q => na (List.mem_singleton.mp hb ▸ q)) (fun b hb q => (I.old b q).2 (List.mem_singleton.mp hb ▸ aM)) (fun b hb => I.new b (List.mem_singleton.mp hb ▸ aM)) (fun i q z hi hq hz => ?_) (by simp) V kp, ?_⟩
    · rw [rd_put hyl] at hq
      by_cases hiy : i = y
      · rw [if_pos hiy] at hq
        cases hq
        rw [if_pos hiy]
        subst hiy
        rw [hv] at hz
        cases hz
        exact .tup (fun q => u (subs2 t q)) g (h4.move (fun _ _ _ e _ => e) (fun b o u _ _ q => u (subs2 b q)) fun _ _ _ e => e)
      · rw [if_neg hiy] at hq
        rw [if_neg hiy]
        obtain ⟨v, hv, b⟩ := I.rep i q hq
        rw [hz] at hv
        cases hv
        exact b.move (fun _ _ _ e _ => e) (fun b o u _ _ q => u (subs2 b q)) fun _ _ _ e => e
    · rintro b (q | ⟨i, q⟩)
      · exact sub1 b (.inl q)
      · by_cases hi : i = x
        · rw [if_pos hi] at q; exact List.mem_singleton.mp q ▸ aM
        · rw [if_neg hi] at q; exact sub1 b (.inr ⟨i, q⟩)

/-- a new address that is none of the frame's own is kept out of all values -/
theorem Inv.addX (I : Inv prog w env vars base X M σ h val fp) (e : Ext h h₁) {z : Addr} (hz : h.get? z = none) (hz₁ : ∃ o, h₁.get? z = some o) : Inv prog w env vars base (fun a => X a ∨ a = z) M σ h₁ val fp := by
  have I' := I.ext e
  refine ⟨I'.len, I'.frv, fun i r q => ?_, I'.non, I'.mem, I'.off, I'.one, I'.nod, I'.new, I'.bas, fun a q => ?_⟩
  · obtain ⟨v, hv, b⟩ := I.rep i r q
    refine ⟨v, hv, b.move (fun a o _ q _ => e a o q) (fun a o u q _ y => ?_) fun a _ o q => e a o q⟩
    rcases y with (y | y) | y
    · exact u (.inl y)
    · rw [y, hz] at q; cases q
    · exact u (.inr y)
  · rcases q with q | q
    · exact I'.old a q
    · subst q
      refine ⟨hz₁, fun m => ?_⟩
      obtain ⟨o, g, _⟩ := I.there m
      rw [hz] at g
      cases g
theorem Inv.dropX {z : Addr} (I : Inv prog w env vars base (fun a => X a ∨ a = z) M σ h val fp) (hs : Heap.SameBut z h h₁) (hb : base.get? z = none) (hX : ¬ X z) : Inv prog w env vars base X M σ h₁ val fp := by
  have hzM := (I.old z (.inr rfl)).2
  have up : ∀ b o, b ≠ z → h.get? b = some o → h₁.get? b = some o := fun b o hne q => (hs.2 b hne).trans q
  refine ⟨I.len, I.frv.keep fun b o f q => up b o (fun e => hzM (e ▸ (I.mem b).mpr (.inl f))) q, fun i r q => ?_, I.non, I.mem, I.off, I.one, I.nod, I.new, fun b o q => up b o (fun e => by rw [e, hb] at q; cases q) (I.bas b o q), fun a q => ?_⟩
  · obtain ⟨v, hv, b⟩ := I.rep i r q
    exact ⟨v, hv, b.move (fun a o u q _ => up a o (fun e => u (.inl (.inr e))) q) (fun a o u _ _ y => u (y.imp .inl id)) fun a ha o q => up a o (fun e => hzM (e ▸ (I.mem a).mpr (.inr ⟨i, ha⟩))) q⟩
  · obtain ⟨⟨o, g⟩, nm⟩ := I.old a (.inl q)
    refine ⟨?_, nm⟩
    exact ⟨o, up a o (fun e => hX (e ▸ q)) g⟩
end
end Mine

namespace Mine
open PySem PySem.Spec PyProof.Rows

section
variable (prog : Program) (w : World)
/-- a value that is looked at: the list itself may be owned -/
def BRep (h : Heap) (U : Addr → Prop) (v : Value) : D → Prop
  | .lst xs => ∃ a vs n, v = .ref a ∧ h.get? a = some (lstObj vs n) ∧ Reps prog w h U vs xs
  | d => Rep prog w h U v d
def UB (U : Addr → Prop) (h : Heap) : Prop := ∀ a, U a → ∃ o, h.get? a = some o
/-- an operation's end: all kept, a new value -/
structure Post (s : Shared) (U : Addr → Prop) (f : Bool) (d : D) (v : Value) (s' : Shared) : Prop where
  st : St s s'
  ext : Ext s.heap s'.heap
  rep : Rep prog w s'.heap U v d
  new : f = true → ∀ xs, d = .lst xs → RX prog w s.heap s'.heap U v (.own xs)
end

section
variable {prog : Program} {w : World} {A : Around} {E : Value → Shared → Prop} {s s₁ : Shared} {U : Addr → Prop} {h : Heap}

theorem Rep.b {v : Value} {d : D} (r : Rep prog w h U v d) : BRep prog w h U v d := by
  cases r with
  | lst u g r => exact ⟨_, _, _, rfl, g, r⟩
  | non => exact .non
  | bool b => exact .bool b
  | int i t => exact .int i t
  | str x t => exact .str x t
  | tup u g r => exact .tup u g r
  | dic u n g e1 e2 r => exact .dic u n g e1 e2 r
theorem BRep.ext {h h' : Heap} {v : Value} {d : D} (r : BRep prog w h U v d) (e : Ext h h') : BRep prog w h' U v d := by
  cases d with
  | lst xs => obtain ⟨a, vs, n, rfl, g, r⟩ := r; exact ⟨a, vs, n, rfl, e _ _ g, r.ext e⟩
  | _ => exact Rep.ext r e
theorem BRep.int {v : Value} {i : Int} (r : BRep prog w h U v (.int i)) : ∃ t, v = .int i t := by
  have r : Rep prog w h U v (.int i) := r
  cases r; exact ⟨_, rfl⟩
theorem BRep.str {v : Value} {x : Str} (r : BRep prog w h U v (.str x)) : ∃ t, v = .str x t := by
  have r : Rep prog w h U v (.str x) := r
  cases r; exact ⟨_, rfl⟩
theorem RX.rep {h₀ h : Heap} {v : Value} {xs : List D} (hU : UB U h₀) (x : RX prog w h₀ h U v (.own xs)) : Rep prog w h U v (.lst xs) := by
  obtain ⟨fn, r, f, _⟩ := x
  cases r with
  | own g r => exact .lst (fun u => by obtain ⟨o, q⟩ := hU _ u; rw [f _ (.head _)] at q; cases q) g (r.less fun a u => .inl u)
/-- a list made new -/
theorem RX.list {h₀ h : Heap} {a : Addr} {vs : List Value} {n : Nat} {xs : List D} (hn : h₀.get? a = none) (e : Ext h₀ h) (g : h.get? a = some (lstObj vs n)) (r : Reps prog w h₀ U vs xs) : RX prog w h₀ h U (.ref a) (.own xs) :=
  ⟨[a], .own g (r.move (fun b o _ q _ => e b o q) fun b o u q _ y => y.elim u fun y => by rw [List.mem_singleton.mp y, hn] at q; cases q), fun b hb => by rw [List.mem_singleton.mp hb]; exact hn, by simp⟩
theorem size_none (h : Heap) {a : Addr} (ha : h.objs.size ≤ a) : h.get? a = none := by
  cases e : h.get? a with
  | none => rfl
  | some o => exact absurd (Heap.lt_size e) (Nat.not_lt.mpr ha)
theorem UB.ext {h h' : Heap} (u : UB U h) (e : Ext h h') : UB U h' := fun a q => let ⟨o, g⟩ := u a q; ⟨o, e _ _ g⟩

/-- the posts of one step, of two -/
theorem Post.scalar {d : D} {v : Value} {f : Bool} (tk : Nat) (r : Rep prog w s.heap U v d) (hd : ∀ xs, d ≠ .lst xs) : Post prog w s U f d v { s with toks := tk } :=
  ⟨⟨s.heap, tk, rfl⟩, fun _ _ e => e, r, fun _ xs e => absurd e (hd xs)⟩
theorem Post.list {a : Addr} {vs : List Value} {n : Nat} {xs : List D} {f : Bool} {h' : Heap} (tk : Nat) (hU : UB U s.heap) (hn : s.heap.get? a = none) (e : Ext s.heap h') (g : h'.get? a = some (lstObj vs n)) (r : Reps prog w s.heap U vs xs) :
    Post prog w s U f (.lst xs) (.ref a) { s with heap := h', toks := tk } :=
  have x := RX.list hn e g r
  ⟨⟨h', tk, rfl⟩, e, x.rep hU, fun _ ys q => by cases q; exact x⟩
theorem Post.push {vs : List Value} {xs : List D} {f : Bool} (tk : Nat) (hU : UB U s.heap) (r : Reps prog w s.heap U vs xs) :
    Post prog w s U f (.lst xs) (.ref s.heap.objs.size) { s with heap := s.heap.push (lstObj vs 0), toks := tk } :=
  .list tk hU (size_none _ (Nat.le_refl _)) (fun _ _ q => Heap.get?_push_of_some _ q) (Heap.get?_push_size _ rfl) r
theorem Post.after {d : D} {v : Value} {f : Bool} {s' : Shared} (st : St s s₁) (e : Ext s.heap s₁.heap) (p : Post prog w s₁ U f d v s') : Post prog w s U f d v s' :=
  ⟨st.trans p.st, fun b o q => p.ext b o (e b o q), p.rep, fun hf xs q => by
    obtain ⟨fn, r, f, n⟩ := p.new hf xs q
    exact ⟨fn, r, fun a ha => fresh_none e (f a ha), n⟩⟩

inductive MBop : Bop → Operator → Prop
  | add : MBop .add .Add
  | sub : MBop .sub .Sub
  | mul : MBop .mul .Mult
  | fdiv : MBop .fdiv .FloorDiv
  | mod : MBop .mod .Mod

theorem lid_le : lid ≤ sizeLine := by rw [sizeLine_eq]; decide

theorem mul_list_raw {l : Addr} {items : Array Value} {k : Nat} {x : Int} {u : Tok} {Q : Value → Shared → Prop}
    (hl : s.heap.get? l = some { cls := .type "list", dict := none, data := .seq items k, slots := #[] })
    (hlo : -(2 ^ 63 : Int) ≤ x) (hhi : x < 2 ^ 63) (hsz : items.size * x.toNat ≤ 2 ^ 24)
    (h : Q (.ref s.heap.objs.size) { s with heap := s.heap.push { cls := .type "list", data := .seq (List.foldl (fun x1 x2 => x1 ++ x2) #[] (List.replicate (if items.isEmpty = true then 0 else x.toNat) items)) } }) :
    wpAny (model prog w) A (binaryOp .Mult (.ref l) (.int x u)) Q E s :=
  wpAny_binaryOp_repeat_ref (T := "list") (U := "int") (by decide) ⟨_, hl, rfl⟩ (fun s' => typeIs_int s' x u) noFill_list_mul F.fills_int_mul F.slot_int_rmul repeat_list F.slot_int_index.lookup
    (call_meets F.slot_int_rmul (typeIs_int s x u) F.entry_int_rmul (F.args_int_rmul_2 _ _) (int___rmul___int_list x u l items k)
      ⟨hl, rfl, ⟨_, hl, rfl⟩, call_meets F.slot_list_mul ⟨_, hl, rfl⟩ F.entry_list_mul (F.args_list_mul_2 _ _)
        (AutoListH.list___mul___list_int_3 l items k x u (by simp [Builtin.List.listFitsIndex]; lia) (by lia) (by simp [Builtin.List.listTooLong, sizeLine]; lia))
        ⟨hl, h⟩⟩)
theorem foldl_one (v : Value) : ∀ (k : Nat) (acc : List Value), List.foldl (fun x1 x2 => x1 ++ x2) acc.toArray (List.replicate k #[v]) = (acc ++ List.replicate k v).toArray
  | 0, acc => by simp
  | k + 1, acc => by
    rw [List.replicate_succ, List.foldl_cons]
    have := foldl_one v k (acc ++ [v])
    rw [show acc.toArray ++ #[v] = (acc ++ [v]).toArray from by simp, this, List.replicate_succ]
    simp

theorem bin2_int {op : Bop} {o : Operator} (hm : MBop op o) {i j : Int} {t u : Tok} {d : D} (he : (num2 op i j).map D.int = some d) {f : Bool} : wpAny (model prog w) A (binaryOp o (.int i t) (.int j u)) (Post prog w s U f d) E s := by
  obtain ⟨k, hk, rfl⟩ := Option.map_eq_some_iff.mp he
  cases hm with
  | add => cases hk; exact add_int (.scalar _ (.int _ _) fun _ q => nomatch q)
  | sub => cases hk; exact sub_int (.scalar _ (.int _ _) fun _ q => nomatch q)
  | mul =>
    by_cases q : i.natAbs < 1000000 ∧ j.natAbs < 1000000
    · cases (if_pos q).symm.trans hk
      exact mul_int (.scalar _ (.int _ _) fun _ q => nomatch q) (.of_left (intBits_le_64 (by lia) (by lia)))
    · cases (if_neg q).symm.trans hk
  | fdiv =>
    by_cases q : 0 < j ∧ j < 1000000
    · cases (if_pos q).symm.trans hk
      refine floordiv_int (by lia) ?_ (.inl (PyProof.noPylong_small (by lia)))
      rw [Int.fdiv_eq_ediv_of_nonneg _ (by lia)]
      exact .scalar _ (.int _ _) fun _ q => nomatch q
    · cases (if_neg q).symm.trans hk
  | mod =>
    by_cases q : 0 < j
    · cases (if_pos q).symm.trans hk
      refine mod_int (by lia) ?_
      rw [Int.fmod_eq_emod_of_nonneg _ (by lia)]
      exact .scalar _ (.int _ _) fun _ q => nomatch q
    · cases (if_neg q).symm.trans hk
theorem bin2_add {a b : Value} {xs ys : List D} {d : D} (hU : UB U s.heap) (ha : BRep prog w s.heap U a (.lst xs)) (hb : BRep prog w s.heap U b (.lst ys)) (he : mk (xs ++ ys) = some d) {f : Bool} :
    wpAny (model prog w) A (binaryOp .Add a b) (Post prog w s U f d) E s := by
  by_cases q : (xs ++ ys).length ≤ lid
  · cases (if_pos q).symm.trans he
    obtain ⟨l, vs, n, rfl, g, r⟩ := ha
    obtain ⟨l', vs', n', rfl, g', r'⟩ := hb
    refine P.add_list (n := n) (n2 := n') g g' ?_ (by rw [List.size_toArray, List.size_toArray, r.length, r'.length, ← List.length_append]; exact Nat.le_trans q lid_le)
    have := Post.push (prog := prog) (w := w) (f := f) s.toks hU (r.append r')
    simpa using this
  · cases (if_neg q).symm.trans he
theorem bin2_mul {a b : Value} {x : D} {k : Int} {d : D} (hU : UB U s.heap) (ha : BRep prog w s.heap U a (.lst [x])) (hb : BRep prog w s.heap U b (.int k)) (he : (if 0 ≤ k ∧ k ≤ lid then some (D.lst (List.replicate k.toNat x)) else none) = some d) {f : Bool} :
    wpAny (model prog w) A (binaryOp .Mult a b) (Post prog w s U f d) E s := by
  split at he
  · rename_i q
    cases he
    obtain ⟨l, vs, n, rfl, g, r⟩ := ha
    obtain ⟨t, rfl⟩ := hb.int
    cases r with
    | @cons v vs _ _ rx r0 =>
      cases r0
      have l4 : (lid : Int) = 4096 := rfl
      refine mul_list_raw (items := #[v]) g (by lia) (by lia) (by simp; lia) ?_
      have e : List.foldl (fun x1 x2 => x1 ++ x2) #[] (List.replicate (if (#[v] : Array Value).isEmpty = true then 0 else k.toNat) #[v]) = (List.replicate k.toNat v).toArray := foldl_one v k.toNat []
      rw [e]
      exact Post.push (prog := prog) (w := w) (f := f) s.toks hU (Reps.replicate rx k.toNat)
  · cases he
theorem bin2_str {x y : Str} {t u : Tok} {d : D} (he : (if x.length ≤ lid ∧ y.length ≤ lid then some (D.str (x ++ y)) else none) = some d) {f : Bool} :
    wpAny (model prog w) A (binaryOp .Add (.str x t) (.str y u)) (Post prog w s U f d) E s := by
  split at he
  · rename_i q
    cases he
    refine add_str (fun t' tk => .scalar _ (.str _ _) fun _ q => nomatch q) ?_
    have e := sizeLine_eq
    have l4 : lid = 4096 := rfl
    lia
  · cases he

theorem bin2_ok {op : Bop} {o : Operator} (hm : MBop op o) {a b : Value} {x y d : D} (hU : UB U s.heap) (ha : BRep prog w s.heap U a x) (hb : BRep prog w s.heap U b y) (he : bin2 op x y = some d)
    {f : Bool} : wpAny (model prog w) A (binaryOp o a b) (Post prog w s U f d) E s := by
  cases x with
  | int i =>
    cases y with
    | int j =>
      obtain ⟨t, rfl⟩ := ha.int
      obtain ⟨u, rfl⟩ := hb.int
      exact bin2_int hm he
    | _ => cases he
  | lst xs =>
    cases hm with
    | add =>
      cases y with
      | lst ys => exact bin2_add hU ha hb he
      | _ => cases he
    | mul =>
      cases xs with
      | nil => cases he
      | cons x xs =>
        cases xs with
        | nil =>
          cases y with
          | int j => exact bin2_mul hU ha hb he
          | _ => cases he
        | cons _ _ => cases he
    | _ => cases he
  | str x =>
    cases hm with
    | add =>
      cases y with
      | str y =>
        obtain ⟨t, rfl⟩ := ha.str
        obtain ⟨u, rfl⟩ := hb.str
        exact bin2_str he
      | _ => cases he
    | _ => cases he
  | _ => cases he
end
end Mine

namespace Mine
open PySem PySem.Spec PyProof.Rows

mutual
def dP : D → PyData
  | .non => .none
  | .bool b => .bool b
  | .int i => .int i
  | .str x => .str x
  | .tup ds => .tuple (dPs ds)
  | .lst ds => .list (dPs ds)
  | .dic _ _ => .none
def dPs : List D → List PyData
  | [] => []
  | d :: ds => dP d :: dPs ds
end

theorem ok_str {n : Nat} {x : Str} (h : D.ok n (.str x) = true) : PyData.strOk x = true := by
  have h' : x.cps.all (· < 128) = true := by cases n <;> exact h
  unfold PyData.strOk
  rw [Array.all_eq_true'] at h' ⊢
  intro c hc
  have := h' c hc
  simp only [decide_eq_true_eq] at this ⊢
  lia

section
variable {prog : Program} {w : World} {U : Addr → Prop} {h : Heap}
theorem Reps.reads (n : Nat) (ih : ∀ {v : Value} {d : D}, Rep prog w h U v d → D.ok n d = true → ∃ as, Reads h v (dP d) as) {ds : List D} : ∀ {vs : List Value}, Reps prog w h U vs ds → (∀ d ∈ ds, D.ok n d = true) → ∃ as, ReadsAll h vs (dPs ds) as := by
  induction ds with
  | nil => intro vs r _; cases r; exact ⟨_, ReadsAll.nil⟩
  | cons d ds hi =>
    intro vs r hk
    cases r with
    | cons x r =>
      obtain ⟨as, q⟩ := ih x (hk _ (.head _))
      obtain ⟨bs, p⟩ := hi r fun d hm => hk d (.tail _ hm)
      exact ⟨_, ReadsAll.cons q p⟩
theorem Rep.reads (n : Nat) : ∀ {v : Value} {d : D}, Rep prog w h U v d → D.ok n d = true → ∃ as, Reads h v (dP d) as := by
  induction n with
  | zero =>
    intro v d r hk
    cases r with
    | non => exact ⟨_, Reads.none⟩
    | bool b => exact ⟨_, Reads.bool b⟩
    | int i t => exact ⟨_, Reads.int i t⟩
    | str x t => exact ⟨_, Reads.str x t⟩
    | tup _ _ _ => exact absurd hk Bool.false_ne_true
    | lst _ _ _ => exact absurd hk Bool.false_ne_true
    | dic _ _ _ _ _ _ => exact absurd hk Bool.false_ne_true
  | succ n ih =>
    intro v d r hk
    cases r with
    | non => exact ⟨_, Reads.none⟩
    | bool b => exact ⟨_, Reads.bool b⟩
    | int i t => exact ⟨_, Reads.int i t⟩
    | str x t => exact ⟨_, Reads.str x t⟩
    | tup _ g r =>
      obtain ⟨as, q⟩ := Reps.reads n ih r (List.all_eq_true.mp hk)
      exact ⟨as, reads_tuple_at g rfl rfl q⟩
    | lst _ g r =>
      obtain ⟨as, q⟩ := Reps.reads n ih r (List.all_eq_true.mp hk)
      exact ⟨_, reads_list_at g rfl rfl q⟩
    | dic _ _ _ _ _ _ => exact absurd hk Bool.false_ne_true
theorem BRep.reads {n : Nat} {v : Value} {d : D} (r : BRep prog w h U v d) (hk : D.ok n d = true) : ∃ as, Reads h v (dP d) as := by
  cases d with
  | lst xs =>
    obtain ⟨a, vs, k, rfl, g, r⟩ := r
    cases n with
    | zero => exact absurd hk Bool.false_ne_true
    | succ n =>
      obtain ⟨as, q⟩ := Reps.reads n (Rep.reads n) r (List.all_eq_true.mp hk)
      exact ⟨_, reads_list_at g rfl rfl q⟩
  | _ => exact Rep.reads n r hk
end

theorem ok_all (n : Nat) (hn : ∀ d, D.ok n d = true → (dP d).canLay0 = true ∧ (dP d).depth ≤ n) : ∀ ds : List D, (∀ d ∈ ds, D.ok n d = true) → PyData.canLayAll0 (dPs ds) = true ∧ PyData.depthAll (dPs ds) ≤ n := by
  intro ds
  induction ds with
  | nil => intro _; exact ⟨rfl, Nat.zero_le _⟩
  | cons d ds hi =>
    intro h
    have h1 := hn d (h d (.head _))
    have h2 := hi fun e he => h e (.tail _ he)
    exact ⟨(Bool.and_eq_true _ _).mpr ⟨h1.1, h2.1⟩, Nat.max_le.mpr ⟨h1.2, h2.2⟩⟩
theorem ok_lay : ∀ (n : Nat) (d : D), D.ok n d = true → (dP d).canLay0 = true ∧ (dP d).depth ≤ n := by
  intro n
  induction n with
  | zero =>
    intro d h
    cases d with
    | str x => exact ⟨ok_str h, Nat.le_refl 0⟩
    | non => exact ⟨rfl, Nat.le_refl 0⟩
    | int i => exact ⟨rfl, Nat.le_refl 0⟩
    | _ => exact absurd h Bool.false_ne_true
  | succ n ih =>
    intro d h
    cases d with
    | non => exact ⟨rfl, Nat.zero_le _⟩
    | bool b => exact absurd h Bool.false_ne_true
    | int i => exact ⟨rfl, Nat.zero_le _⟩
    | str x => exact ⟨ok_str h, Nat.zero_le _⟩
    | dic ks ds => exact absurd h Bool.false_ne_true
    | tup ds =>
      have q := ok_all n ih ds (List.all_eq_true.mp h)
      exact ⟨q.1, Nat.succ_le_succ q.2⟩
    | lst ds =>
      have q := ok_all n ih ds (List.all_eq_true.mp h)
      exact ⟨q.1, Nat.succ_le_succ q.2⟩
theorem ok_shaped {n : Nat} {d : D} (hn : n ≤ 64) (h : D.ok n d = true) : SeqAt.shaped (dP d) = true := by
  have l := ok_lay n d h
  unfold SeqAt.shaped
  rw [l.1, Bool.true_and]
  exact decide_eq_true (Nat.le_trans l.2 hn)

theorem D.ok_bool {n : Nat} {b : Bool} (h : D.ok n (.bool b) = true) : False := by cases n <;> exact absurd h Bool.false_ne_true
theorem D.ok_dic {n : Nat} {ks : List Int} {ds : List D} (h : D.ok n (.dic ks ds) = true) : False := by cases n <;> exact absurd h Bool.false_ne_true
theorem cmp_depth {u m k c : Nat} (h : m ≤ 0) (hu : u + 64 < c) : u + 1 + min m k < c := Nat.lt_of_le_of_lt (Nat.add_le_add_left (Nat.le_trans (Nat.min_le_left _ _) (Nat.le_trans h (Nat.zero_le 63))) (u + 1)) hu
theorem eqv_eqbs (n : Nat) (ih : ∀ d e k, D.ok n d = true → D.ok k e = true → PyData.eqv (dP d) (dP e) = D.eqb d e) : ∀ (k : Nat) (ds es : List D), (∀ d ∈ ds, D.ok n d = true) → (∀ d ∈ es, D.ok k d = true) →
    PyData.eqvAll (dPs ds) (dPs es) = D.eqbs ds es := by
  intro k ds
  induction ds with
  | nil => intro es _ _; cases es <;> rfl
  | cons d ds hi =>
    intro es h1 h2
    cases es with
    | nil => rfl
    | cons e es =>
      show (PyData.eqv (dP d) (dP e) && PyData.eqvAll (dPs ds) (dPs es)) = (D.eqb d e && D.eqbs ds es)
      rw [ih d e k (h1 d (.head _)) (h2 e (.head _)), hi es (fun x hx => h1 x (.tail _ hx)) fun x hx => h2 x (.tail _ hx)]
theorem ok_tail {k : Nat} {d : D} {ds : List D} (hd : d = .tup ds ∨ d = .lst ds) (h : D.ok k d = true) : ∃ j, ∀ x ∈ ds, D.ok j x = true := by
  rcases hd with rfl | rfl <;> cases k with
  | zero => exact absurd h Bool.false_ne_true
  | succ k => exact ⟨k, List.all_eq_true.mp h⟩
theorem eqv_eqb : ∀ (n : Nat) (d e : D) (k : Nat), D.ok n d = true → D.ok k e = true → PyData.eqv (dP d) (dP e) = D.eqb d e := by
  intro n
  induction n with
  | zero =>
    intro d e k h1 h2
    cases d with
    | non => cases e with
      | bool b => exact absurd (D.ok_bool h2) id
      | dic a b => exact absurd (D.ok_dic h2) id
      | _ => rfl
    | int i => cases e with
      | bool b => exact absurd (D.ok_bool h2) id
      | dic a b => exact absurd (D.ok_dic h2) id
      | _ => rfl
    | str x => cases e with
      | bool b => exact absurd (D.ok_bool h2) id
      | dic a b => exact absurd (D.ok_dic h2) id
      | _ => rfl
    | _ => exact absurd h1 Bool.false_ne_true
  | succ n ih =>
    intro d e k h1 h2
    cases e with
    | bool b => exact absurd (D.ok_bool h2) id
    | dic a b => exact absurd (D.ok_dic h2) id
    | tup es =>
      cases d with
      | tup ds =>
        obtain ⟨j, hj⟩ := ok_tail (.inl rfl) h2
        exact eqv_eqbs n (fun d e k => ih d e k) j ds es (List.all_eq_true.mp h1) hj
      | bool b => exact absurd (D.ok_bool h1) id
      | dic a b => exact absurd (D.ok_dic h1) id
      | _ => rfl
    | lst es =>
      cases d with
      | lst ds =>
        obtain ⟨j, hj⟩ := ok_tail (.inr rfl) h2
        exact eqv_eqbs n (fun d e k => ih d e k) j ds es (List.all_eq_true.mp h1) hj
      | bool b => exact absurd (D.ok_bool h1) id
      | dic a b => exact absurd (D.ok_dic h1) id
      | _ => rfl
    | _ =>
      cases d with
      | bool b => exact absurd (D.ok_bool h1) id
      | dic a b => exact absurd (D.ok_dic h1) id
      | _ => rfl

inductive MCop : Cop → CmpOp → Prop
  | eq : MCop .eq .Eq
  | ne : MCop .ne .NotEq
  | lt : MCop .lt .Lt
  | le : MCop .le .LtE
  | gt : MCop .gt .Gt
  | ge : MCop .ge .GtE
  | isin : MCop .isin .In
  | notin : MCop .notin .NotIn
  | isnone : MCop .isnone .Is

section
variable {prog : Program} {w : World} {A : Around} {E : Value → Shared → Prop} {s : Shared} {U : Addr → Prop}

theorem in_core {xs : List D} {i : Int} (hx : xs.all (D.ok 0) = true) : (dPs xs).any (fun y => PyData.eqv y (.int i)) = xs.any (fun x => D.eqb x (.int i)) := by
  induction xs with
  | nil => rfl
  | cons x xs ih =>
    simp only [List.all_cons, Bool.and_eq_true] at hx
    have e : PyData.eqv (dP x) (.int i) = D.eqb x (.int i) := eqv_eqb 0 x (.int i) 0 hx.1 rfl
    simp only [dPs, List.any_cons, ih hx.2, e]

/-- a comparison: nothing turns; the value is a bool -/
theorem cmp2_ok {op : Cop} {o : CmpOp} (hm : MCop op o) {a b : Value} {x y : D} {c : Bool} (hu : A.units + 64 < cLine) (ha : BRep prog w s.heap U a x) (hb : BRep prog w s.heap U b y) (he : cmp2 op x y = some c)
    {Q : Value → Shared → Prop} (h : Q (.bool c) s) : wpAny (model prog w) A (compareOp o a b) Q E s := by
  cases hm with
  | eq =>
    by_cases q : (x.ok 4 && y.ok 4) = true
    · cases (if_pos q).symm.trans he
      have q := Bool.and_eq_true_iff.mp q
      obtain ⟨as, ra⟩ := ha.reads q.1
      obtain ⟨bs, rb⟩ := hb.reads q.2
      exact eq_dataH ra rb (ok_shaped (by decide) q.1) (ok_shaped (by decide) q.2) hu (by rw [eqv_eqb 4 x y 4 q.1 q.2]; exact h)
    · cases (if_neg q).symm.trans he
  | ne =>
    by_cases q : (x.ok 4 && y.ok 4) = true
    · cases (if_pos q).symm.trans he
      have q := Bool.and_eq_true_iff.mp q
      obtain ⟨as, ra⟩ := ha.reads q.1
      obtain ⟨bs, rb⟩ := hb.reads q.2
      exact ne_dataH ra rb (ok_shaped (by decide) q.1) (ok_shaped (by decide) q.2) hu (by rw [eqv_eqb 4 x y 4 q.1 q.2]; exact h)
    · cases (if_neg q).symm.trans he
  | lt =>
    cases x with
    | int i =>
      cases y with
      | int j =>
        cases he
        obtain ⟨t, rfl⟩ := ha.int
        obtain ⟨u, rfl⟩ := hb.int
        exact lt_int h
      | _ => cases he
    | _ => cases he
  | le =>
    cases x with
    | int i =>
      cases y with
      | int j =>
        cases he
        obtain ⟨t, rfl⟩ := ha.int
        obtain ⟨u, rfl⟩ := hb.int
        exact le_int h
      | _ => cases he
    | _ => cases he
  | gt =>
    cases x with
    | int i =>
      cases y with
      | int j =>
        cases he
        obtain ⟨t, rfl⟩ := ha.int
        obtain ⟨u, rfl⟩ := hb.int
        exact gt_int h
      | _ => cases he
    | _ => cases he
  | ge =>
    cases x with
    | int i =>
      cases y with
      | int j =>
        cases he
        obtain ⟨t, rfl⟩ := ha.int
        obtain ⟨u, rfl⟩ := hb.int
        exact ge_int h
      | _ => cases he
    | _ => cases he
  | isin =>
    cases x with
    | int i =>
      cases y with
      | lst xs =>
        by_cases q : xs.all (D.ok 0) = true
        · cases (if_pos q).symm.trans he
          obtain ⟨as, ra⟩ := hb.reads (n := 1) q
          have l := ok_all 0 (ok_lay 0) xs (List.all_eq_true.mp q)
          obtain ⟨t, rfl⟩ := ha.int
          refine SeqAt.in_list_reads ra (.int i t) l.1 rfl ?_ (by rw [in_core q]; exact h)
          exact cmp_depth l.2 hu
        · cases (if_neg q).symm.trans he
      | _ => cases he
    | _ => cases he
  | notin =>
    cases x with
    | int i =>
      cases y with
      | lst xs =>
        by_cases q : xs.all (D.ok 0) = true
        · cases (if_pos q).symm.trans he
          obtain ⟨as, ra⟩ := hb.reads (n := 1) q
          have l := ok_all 0 (ok_lay 0) xs (List.all_eq_true.mp q)
          obtain ⟨t, rfl⟩ := ha.int
          refine SeqAt.notIn_list_reads ra (.int i t) l.1 rfl ?_ (by rw [in_core q]; exact h)
          exact cmp_depth l.2 hu
        · cases (if_neg q).symm.trans he
      | _ => cases he
    | _ => cases he
  | isnone =>
    cases y with
    | non =>
      have hb : Rep prog w s.heap U b .non := hb
      cases hb
      have key : plainIs a .none = true ∧ (a = .none ∧ c = true ∨ a ≠ .none ∧ c = false) := by
        cases x with
        | non => have ha : Rep prog w s.heap U a .non := ha; cases ha; cases he; exact ⟨rfl, .inl ⟨rfl, rfl⟩⟩
        | bool b => have ha : Rep prog w s.heap U a (.bool b) := ha; cases ha; cases he; exact ⟨rfl, .inr ⟨nofun, rfl⟩⟩
        | int b => have ha : Rep prog w s.heap U a (.int b) := ha; cases ha; cases he; exact ⟨rfl, .inr ⟨nofun, rfl⟩⟩
        | str b => have ha : Rep prog w s.heap U a (.str b) := ha; cases ha; cases he; exact ⟨rfl, .inr ⟨nofun, rfl⟩⟩
        | tup b => have ha : Rep prog w s.heap U a (.tup b) := ha; cases ha; cases he; exact ⟨rfl, .inr ⟨nofun, rfl⟩⟩
        | lst b => obtain ⟨_, _, _, rfl, _⟩ := ha; cases he; exact ⟨rfl, .inr ⟨nofun, rfl⟩⟩
        | dic b c => have ha : Rep prog w s.heap U a (.dic b c) := ha; cases ha; cases he; exact ⟨rfl, .inr ⟨nofun, rfl⟩⟩
      obtain ⟨pl, key⟩ := key
      rcases key with ⟨rfl, rfl⟩ | ⟨q, rfl⟩
      · exact wpAny_is_self pl h
      · exact wpAny_is_other pl q h
    | _ => cases he
end
end Mine

namespace Mine
open PySem PySem.Spec PyProof.Rows

section
variable {prog : Program} {w : World} {A : Around} {E : Value → Shared → Prop} {s : Shared} {U : Addr → Prop}

theorem look_pairs : ∀ {kvs : List (Int × Value)} {ds : List D} {k : Int} {d : D}, Reps prog w s.heap U (kvs.map (·.2)) ds → look k (kvs.map (·.1)) ds = some d → ∃ v, valueAt kvs k = some v ∧ Rep prog w s.heap U v d
  | [], _, _, _, _, e => by simp [look] at e
  | (q, v) :: kvs, ds, k, d, r, e => by
    cases r with
    | @cons _ _ d' ds' x r =>
      simp only [List.map_cons, look] at e
      by_cases hq : q = k
      · rw [if_pos hq] at e
        cases e
        exact ⟨v, by simp [valueAt, hq], x⟩
      · rw [if_neg hq] at e
        obtain ⟨u, h1, h2⟩ := look_pairs r e
        refine ⟨u, ?_, h2⟩
        simp only [valueAt, List.find?_cons, decide_eq_false hq] at h1 ⊢
        exact h1

/-- an item read: nothing turns but the tokens -/
theorem idx2_ok {value slice : Expr} {o i : Value} {x y d : D} (hs : ∀ o i, subscripted slice false o i = operate [o, i] (getItem o i)) (ho : BRep prog w s.heap U o x) (hi : BRep prog w s.heap U i y) (he : idx2 x y = some d)
    : wpAny (model prog w) A (subscriptTail value slice o i) (fun v s' => (∃ tk, s' = { s with toks := tk }) ∧ Rep prog w s.heap U v d) E s := by
  unfold idx2 at he
  have l4 : (lid : Int) = 4096 := rfl
  split at he
  · split at he
    · rename_i q
      obtain ⟨a, vs, n, rfl, g, r⟩ := ho
      obtain ⟨t, rfl⟩ := hi.int
      obtain ⟨v, hv, rv⟩ := r.get he
      have hl : s.heap.IsList a vs.toArray := ⟨_, g, rfl, n, rfl⟩
      exact tail_any hl.typeIs slot_list_getitem.lookup (wpAny_getItem_list hl q.1 (by lia) (by simpa using hv) ⟨⟨s.toks, rfl⟩, rv⟩) (hs _ _)
    · cases he
  · split at he
    · rename_i xs k q
      have ho : Rep prog w s.heap U o (.tup xs) := ho
      cases ho with
      | @tup a vs n _ u g r =>
        obtain ⟨t, rfl⟩ := hi.int
        obtain ⟨v, hv, rv⟩ := r.get he
        have hl : IsTup s.heap a vs.toArray := ⟨_, g, rfl, n, rfl⟩
        have hlt := (List.getElem?_eq_some_iff.mp hv).1
        exact tail_any hl.typeIs slot_tuple_getitem.lookup (getItem_tuple hl (by lia) (by lia) (j := k.toNat) (by rw [List.size_toArray]; exact seqIndex_of q.1 (by lia)) (by simpa using hv) ⟨⟨s.toks, rfl⟩, rv⟩) (hs _ _)
    · cases he
  · rename_i ks ds k
    have ho : Rep prog w s.heap U o (.dic ks ds) := ho
    cases ho with
    | dic u n g e1 e2 r =>
      subst e1 e2
      obtain ⟨t, rfl⟩ := hi.int
      obtain ⟨v, hv, rv⟩ := look_pairs r he
      have hmap := g.mapOf
      refine tail_any hmap.typeIs slot_dict_getitem.lookup (wpAny_getItem_of (k := k) (by show Value.isInt k (.int k t) = true; simp [Value.isInt]) hmap hv ⟨⟨_, rfl⟩, rv⟩) (hs _ _)
  · cases he

theorem len_ok {v : Value} {xs : List D} (hv : BRep prog w s.heap U v (.lst xs)) (hl : xs.length ≤ lid) {f : Bool} : wpAny (model prog w) A (call (.builtin "len") [v]) (Post prog w s U f (.int xs.length)) E s := by
  obtain ⟨a, vs, n, rfl, g, r⟩ := hv
  have hls : s.heap.IsList a vs.toArray := ⟨_, g, rfl, n, rfl⟩
  have l4 : lid = 4096 := rfl
  have e : vs.toArray.size = xs.length := by rw [List.size_toArray, r.length]
  refine Calls.call_len_list hls (by rw [e]; lia) ?_
  rw [e]
  exact .scalar _ (.int _ _) fun _ q => nomatch q
theorem list_ok {v : Value} {xs : List D} (hU : UB U s.heap) (hv : BRep prog w s.heap U v (.lst xs)) (hl : xs.length ≤ lid) {f : Bool} : wpAny (model prog w) A (call (.type "list") [v]) (Post prog w s U f (.lst xs)) E s := by
  obtain ⟨a, vs, n, rfl, g, r⟩ := hv
  refine call_list_seq a (.inl rfl) g rfl rfl (fun h' c e hg => .list s.toks hU (size_none _ (Nat.le_refl _)) e hg r) ?_
  rw [List.size_toArray, r.length]
  exact Nat.le_trans hl lid_le
theorem ints_are : ∀ {xs : List D} {vs : List Value} {ns : List Int}, Reps prog w s.heap U vs xs → dnums xs = some ns → IntsAre vs ns
  | [], _, _, r, e => by cases r; simp [dnums] at e; subst e; exact .nil
  | x :: xs, _, ns, r, e => by
    cases r with
    | cons q r =>
      cases q with
      | int i t =>
        simp only [dnums, Option.map_eq_some_iff] at e
        obtain ⟨ms, e1, rfl⟩ := e
        exact .cons _ _ (ints_are r e1)
      | _ => simp [dnums] at e
theorem are_reps : ∀ {vs : List Value} {ns : List Int}, IntsAre vs ns → ∀ {h : Heap}, Reps prog w h U vs (dints ns)
  | _, _, .nil, _ => .nil
  | _, _, .cons _ _ r, _ => .cons (.int _ _) (are_reps r)
theorem sorted_ok {v : Value} {xs : List D} {ns : List Int} (hU : UB U s.heap) (hv : BRep prog w s.heap U v (.lst xs)) (hi : dnums xs = some ns) (hl : ns.length < 64) {f : Bool} :
    wpAny (model prog w) A (call (.builtin "sorted") [v]) (Post prog w s U f (.lst (dints (ns.mergeSort (fun a b => decide (a ≤ b)))))) E s := by
  obtain ⟨a, vs, n, rfl, g, r⟩ := hv
  have I := ints_are r hi
  have hls : s.heap.IsList a vs.toArray := ⟨_, g, rfl, n, rfl⟩
  refine sorted_ints hls I (by rw [I.length]; exact hl) fun out ns' h1 h2 h3 => ?_
  have e : ns' = ns.mergeSort (fun a b => decide (a ≤ b)) := by
    have p : ns'.Perm (ns.mergeSort (fun a b => decide (a ≤ b))) := h2.trans (List.mergeSort_perm ns _).symm
    refine p.eq_of_pairwise (le := (· ≤ ·)) (fun a b _ _ h h' => Int.le_antisymm h h') h3 ?_
    have := List.pairwise_mergeSort (le := fun a b : Int => decide (a ≤ b)) (by intro a b c h h'; simp only [decide_eq_true_eq] at *; lia) (by intro a b; simp only [Bool.or_eq_true, decide_eq_true_eq]; lia) ns
    exact this.imp fun h => by simpa using h
  subst e
  obtain ⟨ep, he⟩ := sortedAll_at s.heap vs out
  refine .list (vs := out.toList) (n := ep) s.toks hU (size_none _ (Nat.le_succ _)) (fun b o q => sortedAll_old q) (by rw [he]) (are_reps h1)
theorem preSum_eq (ns : List Int) : preSum (fun i => ns.getD i 0) ns.length = ns.sum := by
  have key : ∀ k, k ≤ ns.length → preSum (fun i => ns.getD i 0) k = (ns.take k).sum := by
    intro k
    induction k with
    | zero => intro _; simp [preSum]
    | succ k ih =>
      intro hk
      have h1 := ih (by lia)
      have hlt : k < ns.length := by lia
      have e : ns.take (k + 1) = ns.take k ++ [ns[k]] := by rw [List.take_add_one]; simp [hlt]
      rw [e, List.sum_append]
      simp only [preSum, h1]
      simp [List.getD, hlt]
  have := key ns.length (Nat.le_refl _)
  rwa [List.take_length] at this
theorem sum_ok {v : Value} {xs : List D} {ns : List Int} (hh : A.handled = none) (hv : BRep prog w s.heap U v (.lst xs)) (hi : dnums xs = some ns) {f : Bool} : wpAny (model prog w) A (call (.builtin "sum") [v]) (Post prog w s U f (.int ns.sum)) E s := by
  obtain ⟨a, vs, n, rfl, g, r⟩ := hv
  have I := ints_are r hi
  have hls : s.heap.IsList a vs.toArray := ⟨_, g, rfl, n, rfl⟩
  have hlt := Heap.lt_size g
  refine call_sum_walkG (wpAny_pyIter_list hls ?_)
  refine ⟨_, _, _, vs.toArray.size, _, _, fun i => ns.getD i 0, rfl, Walks.list (A := A.in1) hh s.heap.objs.size a (Nat.ne_of_lt hlt) vs.toArray, ⟨⟨_, Heap.get?_push_size _ rfl, rfl, rfl⟩, hls.push _⟩, ?_, ?_, ?_⟩
  · intro b hb
    show b < (s.heap.push _).objs.size
    rw [Heap.size_push]
    rcases List.mem_cons.mp hb with q | hb
    · rw [q]; exact Nat.lt_succ_self _
    · rw [List.mem_singleton.mp hb]; exact Nat.lt_succ_of_lt hlt
  · intro i v hv
    have hv' : vs[i]? = some v := by simpa using hv
    have hl : i < ns.length := by rw [← I.length]; exact (List.getElem?_eq_some_iff.mp hv').1
    obtain ⟨t, hx⟩ := I.get i (ns[i]'hl) (List.getElem?_eq_getElem hl)
    rw [hx] at hv'
    cases hv'
    exact ⟨t, by simp [List.getD, hl]⟩
  · intro h' tk t' hk
    have e : preSum (fun i => ns.getD i 0) vs.toArray.size = ns.sum := by rw [List.size_toArray, I.length, preSum_eq]
    rw [e]
    refine ⟨⟨h', tk, rfl⟩, fun b o q => hk b o (fun hm => ?_) (Heap.get?_push_of_some _ q), .int _ _, fun _ xs q => nomatch q⟩
    rw [List.mem_singleton.mp hm] at q
    exact Nat.lt_irrefl _ (Heap.lt_size q)
theorem log_small {n : Nat} (h : n < 1000000) : n.log2 < 1920 := by
  by_cases h0 : n = 0
  · rw [h0]; decide
  · have := (Nat.log2_lt (k := 20) h0).mpr (by lia)
    lia
theorem str_ok {i : Int} {t : Tok} (hi : i.natAbs < 1000000) {f : Bool} : wpAny (model prog w) A (call (.type "str") [.int i t]) (Post prog w s U f (.str (Str.ofString (toString i)))) E s :=
  P.str_of_int (log_small hi) (.scalar _ (.str _ _) fun _ q => nomatch q)

/-- a slice -/
theorem slc_ok {value : Expr} {lower upper : Option Expr} {p : Pos} {o : Value} {sl : Addr} {vl vu : Value} {lo hi : Option Int} {xs : List D} (hU : UB U s.heap) (ho : BRep prog w s.heap U o (.lst xs)) (hl : xs.length ≤ lid)
    (hs : s.heap.IsSliceOf sl vl vu .none) (pl : IsPart vl lo) (pu : IsPart vu hi) {ys : List D} (hy : ∀ {vs : List Value}, Reps prog w s.heap U vs xs → Reps prog w s.heap U (slicePick vs.toArray lo hi none).toList ys) {f : Bool} :
    wpAny (model prog w) A (subscriptTail value (.Slice lower upper none p) o (.ref sl)) (Post prog w s U f (.lst ys)) E s := by
  obtain ⟨a, vs, n, rfl, g, r⟩ := ho
  have hls : s.heap.IsList a vs.toArray := ⟨_, g, rfl, n, rfl⟩
  refine tail_any hls.typeIs slot_list_getitem.lookup (wpAny_getItem_list_slice hls hs pl pu .none (by simp) ?_ (by rw [List.size_toArray, r.length]; exact Nat.le_trans hl lid_le)) rfl
  have := Post.push (prog := prog) (w := w) (f := f) s.toks hU (hy r)
  simpa [lstObj] using this
end
end Mine

set_option maxRecDepth 100000
namespace Mine
open PySem PySem.Spec PyProof.Rows

theorem list_no_keys : typeLookup (.type "list") "keys" = pure none := am_miss_of_fast (by decide +kernel)

section
variable {prog : Program} {w : World} {A : Around} {E : Value → Shared → Prop} {s : Shared}

theorem getAttr_none_list {a : Addr} {xs : Array Value} {k : Nat} {name : Str} {Q : Option Value → Shared → Prop}
    (hx : s.heap.get? a = some { cls := .type "list", dict := none, data := .seq xs k, slots := #[] }) (hmiss : typeLookup (.type "list") name = pure none) (hname : (["__module__", "__name__", "__qualname__", "__doc__", "__annotations__"] : List Str).contains name = false) (hA : A.handled = none)
    (h : ∀ h' tk, Ext s.heap h' → Q none { s with heap := h', toks := tk }) (hsz : name.length + 100 ≤ sizeLine) :
    wpAny (model prog w) A (getAttr? (.ref a) name) Q E s := by
  obtain ⟨hp, g, d, tk, os⟩ := s
  have hT : ∀ tk', (⟨hp, g, d, tk', os⟩ : Shared).TypeIs (.ref a) "list" := fun _ => ⟨_, hx, rfl⟩
  have f1 := sub_AttributeError
  have f3 := F.slot_list_getattribute.lookup
  have f4 := F.slot_list_getattribute.bind (.ref a)
  have f5 := am_list_getattr_none
  unfold getAttr? getAttrBy?
  refine wpAny_bind (wpAny_mkText ?_)
  refine wpAny_bind (wpAny_attempt ?_)
  unfold getAttrBy
  repeat (any_goals (first | assumption | exact hT _ | ((with_reducible show wpAny _ _ (call (Value.builtin "list.__getattribute__") _ _) _ _ _); refine call_meets F.slot_list_getattribute (hT _) am_entry_list_getattribute (F.args_list_getattribute_2 _ _) (meets_getattribute_miss_list a xs k #[] name _ hmiss hname hsz) ⟨hx, hA, fun h' tk' e hx' => ?_⟩) | wp_step))
  obtain ⟨t', u', he⟩ := hx'.there
  show wpAny _ _ (getattributeRaised _ _ _ _ _ _ _) _ _ _
  unfold getattributeRaised
  repeat (any_goals (first | assumption | wp_step))
  exact h _ _ hx'.of.keeps

theorem plain_update_loop : plainId "dict.update.loop" = true := by decide +kernel
theorem entry_update_loop : entryFor table "dict.update.loop" = some Builtin.«dict.update.loop» := entryFor_of_tree (by kernel_rfl)
theorem quiet_update_loop (args : Args) : (Code.builtin "dict.update.loop" args).quiet = true := plainId_quiet plain_update_loop args

/-- the pairs, one by one -/
def PairAt (h : Heap) (p : Int × Value) (v : Value) : Prop := ∃ a t n, v = .ref a ∧ h.get? a = some (tupObj [.int p.1 t, p.2] n)

theorem update_loop {l I d : Addr} {vs : List Value} {kvs : List (Int × Value)} (hh : A.handled = none) (hlI : l ≠ I) (hdI : d ≠ I) (hld : l ≠ d) (hlen : kvs.length = vs.length) (hsz : kvs.length ≤ sizeLine) (hn : (kvs.map (·.1)).Nodup)
    {R : Result → Shared → Prop} : ∀ (k i : Nat) (j : Int) (s : Shared), i + k = vs.length → s.heap.IsListIter I l i → s.heap.IsList l vs.toArray → (∀ (q : Nat) (p : Int × Value) (v : Value), kvs[q]? = some p → vs[q]? = some v → PairAt s.heap p v) → s.heap.DictOf (intKind prog w) d (kvs.take i) →
      (∀ h' tk, h'.DictOf (intKind prog w) d kvs → (∀ b o, b ≠ d → b ≠ I → s.heap.get? b = some o → h'.get? b = some o) → R (.ok (.ret .none)) { s with heap := h', toks := tk }) →
      codeAny (model prog w) A (.builtin "dict.update.loop" ⟨[.ref d, .ref I, .int j 0, .none], []⟩) R s := by
  intro k
  induction k with
  | zero =>
    intro i j s hi hit hl hp hd hR
    have hi : i = vs.length := by lia
    subst hi
    refine codeAny_builtin entry_update_loop ?_
    rw [Around.under_plainId plain_update_loop]
    unfold Builtin.«dict.update.loop»
    refine wpAny_bind (wpAny_pyNext_list_end (A := A.in1) hh hit hl (by simp) fun h' e => ?_)
    refine wpAny_bind (wpAny_pure (wpAny_pure ?_))
    refine hR h' s.toks ?_ fun b o _ hb q => e b o hb q
    rw [show kvs.take vs.length = kvs from by rw [← hlen, List.take_length]] at hd
    exact dictOf_at hd fun o q _ => e _ o hdI q
  | succ k ih =>
    intro i j s hi hit hl hp hd hR
    have hlt : i < vs.length := by lia
    have hlt' : i < kvs.length := by lia
    have hv : vs[i]? = some vs[i] := List.getElem?_eq_getElem hlt
    have hkv : kvs[i]? = some kvs[i] := List.getElem?_eq_getElem hlt'
    obtain ⟨a, t, n, hva, ha⟩ := hp i _ _ hkv hv
    refine codeAny_builtin entry_update_loop ?_
    rw [Around.under_plainId plain_update_loop]
    unfold Builtin.«dict.update.loop»
    refine wpAny_bind (wpAny_pyNext_list_item hit hl (x := vs[i]) (by simp) fun h₁ hit₁ hs₁ => ?_)
    rw [hva]
    have haI : a ≠ I := by
      rintro rfl
      obtain ⟨o, q, c, _⟩ := hit
      rw [ha] at q
      cases q
      simp at c
    have had : a ≠ d := by
      rintro rfl
      obtain ⟨o, es, ep, q, c, _⟩ := hd
      rw [ha] at q
      cases q
      have c1 := c.1
      simp at c1
    have ha₁ : h₁.get? a = some (tupObj [.int kvs[i].1 t, kvs[i].2] n) := (hs₁.2 a haI).trans ha
    have hT : ({ s with heap := h₁ } : Shared).TypeIs (.ref a) "tuple" := ⟨_, ha₁, rfl⟩
    refine wpAny_bind (wpAny_holding (wpAny_bind (wpAny_tryCatch ?_)))
    unfold Builtin.Dict.pairItems
    refine wpAny_bind (wpAny_typeOf hT ?_)
    refine wpAny_bind (wpAny_seqItems ha₁ rfl (wpAny_pure ?_))
    show wpAny _ _ (holding _ (dictSet d (.int kvs[i].1 t) kvs[i].2)) _ _ _
    refine wpAny_holding ?_
    have hd₁ : h₁.DictOf (intKind prog w) d (kvs.take i) := dictOf_at hd fun o q _ => (hs₁.2 d hdI).trans q
    refine wpAny_dictSet_pairs (k := kvs[i].1) (by simp [intKind, Value.isInt]) hd₁ (fun h₂ hd₂ hs₂ => ?_) (by rw [List.length_take]; lia)
    have est : stored (kvs.take i) kvs[i].1 kvs[i].2 = kvs.take (i + 1) := by
      have e1 : kvs.take (i + 1) = kvs.take i ++ [kvs[i]] := by rw [List.take_add_one, hkv]; rfl
      rw [e1]
      unfold stored
      rw [if_neg]
      intro q
      rw [List.any_eq_true] at q
      obtain ⟨p, hp1, hp2⟩ := q
      have hp2 : p.1 = kvs[i].1 := of_decide_eq_true hp2
      obtain ⟨m, hm, hpm⟩ := List.getElem_of_mem hp1
      rw [List.length_take] at hm
      have hmk : m < kvs.length := by lia
      rw [List.getElem_take] at hpm
      have h1 : (kvs.map (·.1))[m]? = some kvs[i].1 := by rw [List.getElem?_map, List.getElem?_eq_getElem hmk, hpm]; simp [hp2]
      have h2 : (kvs.map (·.1))[i]? = some kvs[i].1 := by rw [List.getElem?_map, hkv]; rfl
      have := nodup_idx hn h1 h2
      lia
    rw [est] at hd₂
    refine wpAny_pure ⟨quiet_update_loop _, ih (i + 1) (j + 1) _ (by lia) ?_ ?_ ?_ hd₂ fun h' tk hd' hk => ?_⟩
    · exact hit₁.at fun o q => (hs₂.2 I hdI.symm).trans q
    · exact hl.at fun o q => (hs₂.2 l hld).trans ((hs₁.2 l hlI).trans q)
    · intro q p v hq1 hq2
      obtain ⟨b, t', n', rfl, hb⟩ := hp q p v hq1 hq2
      have hbI : b ≠ I := by
        rintro rfl
        obtain ⟨o, q, c, _⟩ := hit
        rw [hb] at q
        cases q
        simp at c
      have hbd : b ≠ d := by
        rintro rfl
        obtain ⟨o, es, ep, q, c, _⟩ := hd
        rw [hb] at q
        cases q
        have c1 := c.1
        simp at c1
      exact ⟨b, t', n', rfl, (hs₂.2 b hbd).trans ((hs₁.2 b hbI).trans hb)⟩
    · exact hR h' tk hd' fun b o hb1 hb2 q => hk b o hb1 hb2 ((hs₂.2 b hb1).trans ((hs₁.2 b hb2).trans q))

variable {U : Addr → Prop}

theorem pairs_reps : ∀ {xs : List D} {vs : List Value} {kvs : List (Int × D)}, Reps prog w s.heap U vs xs → pairs xs = some kvs → ∃ kws : List (Int × Value), kws.map (·.1) = kvs.map (·.1) ∧ kws.length = vs.length ∧ Reps prog w s.heap U (kws.map (·.2)) (kvs.map (·.2)) ∧
    ∀ (q : Nat) (p : Int × Value) (v : Value), kws[q]? = some p → vs[q]? = some v → PairAt s.heap p v
  | [], _, _, r, e => by cases r; simp [pairs] at e; subst e; exact ⟨[], rfl, rfl, .nil, fun q p v h => by simp at h⟩
  | x :: xs, _, kvs, r, e => by
    cases r with
    | @cons v vs _ _ rx r =>
      match x, rx, e with
      | .tup [.int k, d], rx, e =>
        simp only [pairs, Option.map_eq_some_iff] at e
        obtain ⟨kvs', e1, rfl⟩ := e
        obtain ⟨kws, h1, h2, h3, h4⟩ := pairs_reps r e1
        cases rx with
        | @tup a ws n _ u g rr =>
          cases rr with
          | cons r1 r2 =>
            cases r1 with
            | int _ t =>
              cases r2 with
              | @cons v2 _ _ _ r3 r4 =>
                cases r4
                refine ⟨(k, v2) :: kws, by simp [h1], by simp [h2], .cons r3 h3, fun q p v hq hv => ?_⟩
                cases q with
                | zero => simp at hq hv; subst hq hv; exact ⟨a, t, n, rfl, g⟩
                | succ q => exact h4 q p v (by simpa using hq) (by simpa using hv)

theorem dict_ok {v : Value} {xs : List D} {kvs : List (Int × D)} (hh : A.handled = none) (hU : UB U s.heap) (hbig : sysModules < s.heap.objs.size) (hv : BRep prog w s.heap U v (.lst xs)) (hp : pairs xs = some kvs) (hn : (kvs.map (·.1)).Nodup) (hl : kvs.length ≤ lid) {f : Bool} :
    wpAny (model prog w) A (call (.type "dict") [v]) (Post prog w s U f (.dic (kvs.map (·.1)) (kvs.map (·.2)))) E s := by
  obtain ⟨l, vs, n, rfl, g, r⟩ := hv
  obtain ⟨kws, k1, k2, k3, k4⟩ := pairs_reps r hp
  have hll := Heap.lt_size g
  refine callType_codes (Q₁ := fun obj s₁ => obj = .ref s.heap.objs.size ∧ s₁ = { s with heap := s.heap.push { cls := .type "dict", data := .dict #[] } }) F.kt_called_dict (F.kt_typeCall_dict_1 _) F.entry_dict_init (kt_code_dict_new _ ⟨rfl, rfl⟩) ?_
  rintro obj s₁ ⟨rfl, rfl⟩
  have hnew : (s.heap.push { cls := .type "dict", data := .dict #[] }).DictOf (intKind prog w) s.heap.objs.size [] := Heap.DictOf.new s.heap
  have g' : (s.heap.push { cls := .type "dict", data := .dict #[] }).get? l = some (lstObj vs n) := Heap.get?_push_of_some _ g
  refine ⟨hnew.typeIs, F.args_dict_init_2 _ _, ?_⟩
  unfold Builtin.«dict.__init__»
  refine wpAny_bind ?_
  unfold Builtin.Dict.selfAndRest
  refine wpAny_bind (wpAny_notOrdered_dict hnew.typeIs ?_)
  show wpAny _ _ (pure (s.heap.objs.size, [Value.ref l])) _ _ _
  refine wpAny_pure ?_
  show wpAny _ _ (Builtin.Dict.updateFrom "dict.__init__" s.heap.objs.size (.ref l) [] .none) _ _ _
  unfold Builtin.Dict.updateFrom
  refine wpAny_bind (wpAny_typeOf (T := "list") ⟨_, g', rfl⟩ ?_)
  rw [if_pos (by decide)]
  refine wpAny_bind (getAttr_none_list g' list_no_keys (by decide) hh (fun h₁ tk e₁ => ?_) (by rw [sizeLine_eq]; decide))
  refine wpAny_bind (wpAny_rule ?_)
  have hl₁ : h₁.IsList l vs.toArray := ⟨_, e₁ _ _ g', rfl, n, rfl⟩
  have hd₁ : h₁.DictOf (intKind prog w) s.heap.objs.size [] := dictOf_at hnew fun o q _ => e₁ _ _ q
  obtain ⟨od, hod, _⟩ := dictOf_dat hd₁
  have hdl := Heap.lt_size hod
  have hl1l := Heap.lt_size (e₁ _ _ g')
  refine wpAny_bind (wpAny_pyIter_list hl₁ ?_)
  have e₂ : Ext s.heap (h₁.push { cls := .type "list_iterator", data := .fields #[.ref l, .int 0 0] }) := fun b o q => Heap.get?_push_of_some _ (e₁ _ _ (Heap.get?_push_of_some _ q))
  refine wpAny_pure ⟨quiet_update_loop _, update_loop (A := A.in1) (vs := vs) (kvs := kws) (l := l) hh (Nat.ne_of_lt hl1l) (Nat.ne_of_lt hdl) (Nat.ne_of_lt hll) k2 (by have := congrArg List.length k1; simp at this; rw [this]; exact Nat.le_trans hl lid_le) (k1 ▸ hn) vs.length 0 0 _ (by lia) ⟨_, Heap.get?_push_size _ rfl, rfl, rfl⟩ (hl₁.push _) ?_ ?_ ?_⟩
  · intro q p v h1 h2
    obtain ⟨a, t, n, rfl, ha⟩ := k4 q p v h1 h2
    exact ⟨a, t, n, rfl, e₂ _ _ ha⟩
  · exact dictOf_at hd₁ fun o q _ => Heap.get?_push_of_some _ q
  · intro h' tk hd' hk
    refine ⟨rfl, ⟨⟨h', tk, rfl⟩, fun b o q => ?_, ?_, fun _ ys q => nomatch q⟩⟩
    · have hb := Heap.lt_size q
      exact hk b o (Nat.ne_of_lt hb) (fun e => absurd (Heap.lt_size (e₁ _ _ (Heap.get?_push_of_some _ q))) (by rw [e]; exact Nat.lt_irrefl _)) (e₂ b o q)
    · refine .dic (fun u => ?_) ?_ hd' k1 rfl ?_
      · obtain ⟨o, q⟩ := hU _ u
        exact Nat.lt_irrefl _ (Heap.lt_size q)
      · exact beq_eq_false_iff_ne.mpr (Nat.ne_of_gt hbig)
      · refine k3.move (fun b o _ q _ => ?_) fun _ _ u _ _ => u
        have hb := Heap.lt_size q
        exact hk b o (Nat.ne_of_lt hb) (fun e => absurd (Heap.lt_size (e₁ _ _ (Heap.get?_push_of_some _ q))) (by rw [e]; exact Nat.lt_irrefl _)) (e₂ b o q)

/-- list(d.items()): the view, then the list -/
theorem items_ok {d : Addr} {ks : List Int} {ds : List D} (hh : A.handled = none) (hU : UB U s.heap) (hv : Rep prog w s.heap U (.ref d) (.dic ks ds)) (hl : ks.length = ds.length) (hk : ks.length ≤ lid) {f : Bool} :
    wpAny (model prog w) A (call (.builtin "dict.items") [.ref d]) (fun v s₁ => (St s s₁ ∧ Ext s.heap s₁.heap) ∧ ∀ E, wpAny (model prog w) A (call (.type "list") [v]) (Post prog w s U f (.lst ((ks.zip ds).map fun p => .tup [.int p.1, p.2]))) E s₁) E s := by
  cases hv with
  | @dic _ kvs _ vs _ u lo g e1 e2 r =>
    subst e1 e2
    refine call_meetsIn F.slot_dict_items g.typeIs F.entry_dict_items (F.args_dict_items_1 _) (meets_dict_items (intKind prog w) d lo) ⟨⟨kvs, g⟩, ?_⟩
    refine ⟨⟨⟨_, s.toks, rfl⟩, fun b o q => Heap.get?_push_of_some _ q⟩, fun E => ?_⟩
    obtain ⟨ep, hat⟩ := g.dictAt
    refine PySem.W.kdx_call (knd := intKind prog w) (kvs := kvs) (ep := ep) (d := d) hh ⟨_, Heap.get?_push_size _ rfl, rfl, rfl⟩ (hat.push _) (by rw [List.length_map] at hk; exact Nat.le_trans hk lid_le) ?_
    intro h' tk acc c as he hg hla hG hacc
    have e : Ext s.heap h' := fun b o q => he b o (Heap.get?_push_of_some _ q)
    have hsz : ({ s with heap := s.heap.push { cls := .type "dict_items", data := .fields #[.ref d] } } : Shared).heap.objs.size = s.heap.objs.size + 1 := Heap.size_push ..
    rw [hsz] at hg hG ⊢
    have hfr : ∀ a ∈ as, s.heap.get? a = none ∧ a ≠ s.heap.objs.size + 1 := fun a ha => ⟨size_none _ (Nat.le_of_lt (Nat.lt_of_succ_lt (hG.above a ha))), Nat.ne_of_gt (hG.above a ha)⟩
    have hitems : Reps prog w h' (fun a => U a ∨ a ∈ [s.heap.objs.size + 1]) (as.map Value.ref) (((kvs.map (·.1)).zip ds).map fun p => .tup [.int p.1, p.2]) := by
      have key : ∀ (as : List Addr) (kvs : List (Int × Value)) (ds : List D), as.length = kvs.length → Reps prog w s.heap U (kvs.map (·.2)) ds → (∀ a ∈ as, s.heap.get? a = none ∧ a ≠ s.heap.objs.size + 1) →
          (∀ (j : Nat) (a : Addr), as[j]? = some a → ∃ key k x, kvs[j]? = some (k, x) ∧ (intKind prog w).is k key = true ∧ h'.get? a = some { cls := .type "tuple", data := .seq #[key, x] }) →
          Reps prog w h' (fun a => U a ∨ a ∈ [s.heap.objs.size + 1]) (as.map Value.ref) (((kvs.map (·.1)).zip ds).map fun p => .tup [.int p.1, p.2]) := by
        intro as
        induction as with
        | nil => intro kvs ds hl _ _ _; cases kvs with | nil => exact .nil | cons _ _ => simp at hl
        | cons a as ih =>
          intro kvs ds hl r hf hp
          cases kvs with
          | nil => simp at hl
          | cons kv kvs =>
            cases r with
            | cons r1 r2 =>
              obtain ⟨key, k, x, q1, q2, q3⟩ := hp 0 a rfl
              simp at q1
              subst q1
              obtain ⟨t, rfl⟩ := Value.isInt_shape (k := k) (v := key) q2
              have hfa := hf a (.head _)
              have nU : ¬ (U a ∨ a ∈ [s.heap.objs.size + 1]) := by
                rintro (y | y)
                · obtain ⟨o, q⟩ := hU _ y
                  rw [hfa.1] at q
                  cases q
                · exact hfa.2 (List.mem_singleton.mp y)
              have r1' : Rep prog w h' (fun a => U a ∨ a ∈ [s.heap.objs.size + 1]) x _ := r1.move (fun b o _ q _ => e b o q) fun b o u q _ y => y.elim u fun y => by
                rw [List.mem_singleton.mp y, size_none s.heap (Nat.le_succ _)] at q
                cases q
              refine .cons (.tup (vs := [.int k t, x]) (n := 0) nU q3 (.cons (.int _ _) (.cons r1' .nil))) (ih kvs _ (by simpa using hl) r2 (fun a ha => hf a (.tail _ ha)) ?_)
              intro j a ha
              obtain ⟨key, k, x, q1, q2, q3⟩ := hp (j + 1) a (by simpa using ha)
              exact ⟨key, k, x, by simpa using q1, q2, q3⟩
      exact key as kvs ds hla r hfr hG.pairs
    have X : RX prog w s.heap h' U (.ref (s.heap.objs.size + 1)) (.own (((kvs.map (·.1)).zip ds).map fun p => .tup [.int p.1, p.2])) := by
      refine ⟨[s.heap.objs.size + 1], .own (vs := as.map Value.ref) (n := c) ?_ hitems, fun b hb => by rw [List.mem_singleton.mp hb]; exact size_none _ (Nat.le_succ _), by simp⟩
      rw [hg, ← hacc]
    exact ⟨⟨h', tk, rfl⟩, e, X.rep hU, fun _ ys q => by cases q; exact X⟩
end
end Mine

set_option maxRecDepth 100000
namespace Mine
open PySem PySem.Spec PyProof.Rows

/-- the scope of a comprehension's block -/
def relab (scope sc : Scope) : Scope :=
  { scope with names := scope.names.map fun (n, k) => if (k == .free && sc.kind == .function && sc.names.lookup n == some .cell) then (n, .cell) else (n, k) }

structure CompOK (sc scope : Scope) (cx : Str) (vs : List Str) (iter : Expr) : Prop where
  kind : scope.kind = .function
  nocell : ∀ y ∈ scope.names, y.2 ≠ .cell
  locs : ∀ y ∈ scope.names, y.2 = .local → scope.names.lookup y.1 = some .local
  cxl : scope.names.lookup cx = some .local
  free : ∀ y ∈ scope.names, y.2 = .free → sc.names.lookup y.1 = some .cell
  cells : ∀ y ∈ (relab scope sc).names, y.2 = .cell → (y.1, NameKind.free) ∈ scope.names
  loc2 : ∀ y ∈ (relab scope sc).names, y.2 = .local → y.1 = cx ∨ y.1 ∉ vs
  new : cx ∉ vs
  fold : ∀ env x, foldedSetIterable iter env x = pure x

def biName : Bi → Option (String × Value)
  | .len => some ("len", .builtin "len")
  | .list => some ("list", .type "list")
  | .sum => some ("sum", .builtin "sum")
  | .sorted => some ("sorted", .builtin "sorted")
  | .str => some ("str", .type "str")
  | .dict => some ("dict", .type "dict")
  | .items => none

def biv : String → Option Value
  | "len" => some (.builtin "len")
  | "list" => some (.type "list")
  | "sum" => some (.builtin "sum")
  | "sorted" => some (.builtin "sorted")
  | "str" => some (.type "str")
  | "dict" => some (.type "dict")
  | "range" => some (.type "range")
  | "ValueError" => some (.type "ValueError")
  | _ => none

theorem biv_biName {f : Bi} {nm : String} {v : Value} (h : biName f = some (nm, v)) : biv nm = some v := by
  cases f <;> simp [biName] at h <;> obtain ⟨rfl, rfl⟩ := h <;> rfl

def gl (sc : Scope) (f : String) : Prop := sc.names.lookup (Str.ofString f) = some .globalImplicit ∧ (Str.ofString f == ("__debug__" : Str)) = false

inductive NNon : Expr → Prop
  | mk {k p} : NNon (.Constant .none k p)
inductive NBool (b : Bool) : Expr → Prop
  | mk {k p} : NBool b (.Constant (.bool b) k p)
inductive NInt (i : Int) : Expr → Prop
  | mk {k p} : NInt i (.Constant (.int i) k p)
inductive NStr (x : Str) : Expr → Prop
  | mk {k p} : NStr x (.Constant (.str x) k p)
inductive NVar (sc : Scope) (vs : List Str) (i : Nat) : Expr → Prop
  | mk {x p} : vs[i]? = some x → (sc.names.lookup x = some .local ∨ sc.names.lookup x = some .cell) → (x == ("__debug__" : Str)) = false → NVar sc vs i (.Name x p)
inductive NBin (op : Bop) (A B : Expr → Prop) : Expr → Prop
  | mk {o l r p} : MBop op o → A l → B r → NBin op A B (.BinOp l o r p)
inductive NNeg (A : Expr → Prop) : Expr → Prop
  | mk {l p} : A l → NNeg A (.UnaryOp .USub l p)
inductive NCmp (op : Cop) (A B : Expr → Prop) : Expr → Prop
  | mk {o l r p} : MCop op o → A l → B r → behindInMarks o r = false → NCmp op A B (.Compare l [o] [r] p)
inductive NIte (T A B : Expr → Prop) : Expr → Prop
  | mk {x l r p} : T x → A l → B r → NIte T A B (.IfExp x l r p)
inductive NCall (sc : Scope) (f : String) (X : List Expr → Prop) : Expr → Prop
  | mk {xs p1 p} : gl sc f → X xs → xs ≠ [] → NCall sc f X (.Call (.Name (Str.ofString f) p1) xs [] p)
inductive NBi (sc : Scope) (f : Bi) (A : Expr → Prop) : Expr → Prop
  | bi {x nm v p1 p} : biName f = some (nm, v) → gl sc nm → A x → NBi sc f A (.Call (.Name (Str.ofString nm) p1) [x] [] p)
  | items {x p0 ap p1 p3 p} : f = .items → gl sc "list" → (ap.endLine == p3.line) = true → A (.Name x p0) → NBi sc f A (.Call (.Name (Str.ofString "list") p1) [.Call (.Attribute (.Name x p0) (Str.ofString "items") ap) [] [] p3] [] p)
inductive NIdx (A I : Expr → Prop) : Expr → Prop
  | mk {x y p} : A x → I y → NIdx A I (.Subscript x y p)
inductive NOpt (e : E) (A : Expr → Prop) : Option Expr → Prop
  | none : e = .non → NOpt e A none
  | some {x} : A x → NOpt e A (some x)
inductive NSlc (A : Expr → Prop) (L H : Option Expr → Prop) : Expr → Prop
  | mk {x y z p1 p} : A x → L y → H z → NSlc A L H (.Subscript x (.Slice y z none p1) p)
inductive NLst (X : List Expr → Prop) : Expr → Prop
  | mk {xs p} : X xs → NLst X (.List xs p)
inductive NTup (X : List Expr → Prop) : Expr → Prop
  | mk {xs k p} : X xs → NTup X (.Tuple xs k p)
inductive NDic : Expr → Prop
  | mk {p} : NDic (.Dict [] [] p)
inductive NComp (sc : Scope) (vs : List Str) (I : Expr → Prop) (M : Scope → List Str → Expr → Prop) : Expr → Prop
  | mk {elt iter cx px scope pos} : I iter → M (relab scope sc) (vs ++ [cx]) elt → CompOK sc scope cx vs iter → NComp sc vs I M (.ListComp elt [⟨.Name cx px, iter, [], 0⟩] scope pos)
inductive NNil : List Expr → Prop
  | mk : NNil []
inductive NCons (A : Expr → Prop) (X : List Expr → Prop) : List Expr → Prop
  | mk {x xs} : A x → X xs → NCons A X (x :: xs)
inductive NNot (A : Expr → Prop) : Expr → Prop
  | mk {x p} : A x → NNot A (.UnaryOp .Not x p)
inductive NBoo (o : BoolOp) (A B : Expr → Prop) : Expr → Prop
  | mk {x y p} : A x → B y → NBoo o A B (.BoolOp o [x, y] p)
inductive NEx (A : Expr → Prop) (x : Expr) : Prop
  | mk : A x → (∀ env w, isTrue x env w = (do let v ← w; standAt x.pos; holding [v] (truthy v))) → NEx A x
inductive NRange (sc : Scope) (A : Expr → Prop) : Expr → Prop
  | mk {x p1 p} : gl sc "range" → A x → NRange sc A (.Call (.Name (Str.ofString "range") p1) [x] [] p)
mutual
def mE : E → Scope → List Str → Expr → Prop
  | .non, _, _ => NNon
  | .bool b, _, _ => NBool b
  | .int i, _, _ => NInt i
  | .str x, _, _ => NStr x
  | .var i, sc, vs => NVar sc vs i
  | .bin op a b, sc, vs => NBin op (mE a sc vs) (mE b sc vs)
  | .neg a, sc, vs => NNeg (mE a sc vs)
  | .cmp op a b, sc, vs => NCmp op (mE a sc vs) (mE b sc vs)
  | .ite t a b, sc, vs => NIte (mT t sc vs) (mE a sc vs) (mE b sc vs)
  | .call f es, sc, vs => NCall sc f (mEs es sc vs)
  | .bi f a, sc, vs => NBi sc f (mE a sc vs)
  | .idx a i, sc, vs => NIdx (mE a sc vs) (mE i sc vs)
  | .slc a lo hi, sc, vs => NSlc (mE a sc vs) (NOpt lo (mE lo sc vs)) (NOpt hi (mE hi sc vs))
  | .lst es, sc, vs => NLst (mEs es sc vs)
  | .tup es, sc, vs => NTup (mEs es sc vs)
  | .dic0, _, _ => NDic
  | .comp e it, sc, vs => NComp sc vs (mI it sc vs) (fun sc' vs' => mE e sc' vs')
def mEs : Es → Scope → List Str → List Expr → Prop
  | .nil, _, _ => NNil
  | .cons e es, sc, vs => NCons (mE e sc vs) (mEs es sc vs)
def mT : T → Scope → List Str → Expr → Prop
  | .cmp op a b, sc, vs => NCmp op (mE a sc vs) (mE b sc vs)
  | .not t, sc, vs => NNot (mT t sc vs)
  | .and a b, sc, vs => NBoo .And (mT a sc vs) (mT b sc vs)
  | .or a b, sc, vs => NBoo .Or (mT a sc vs) (mT b sc vs)
  | .ex e, sc, vs => NEx (mE e sc vs)
def mI : It → Scope → List Str → Expr → Prop
  | .range e, sc, vs => NRange sc (mE e sc vs)
  | .seq e, sc, vs => mE e sc vs
end
abbrev ME (sc : Scope) (vs : List Str) (e : E) (x : Expr) : Prop := mE e sc vs x
abbrev MEs (sc : Scope) (vs : List Str) (es : Es) (xs : List Expr) : Prop := mEs es sc vs xs
abbrev MT (sc : Scope) (vs : List Str) (t : T) (x : Expr) : Prop := mT t sc vs x
abbrev MI (sc : Scope) (vs : List Str) (it : It) (x : Expr) : Prop := mI it sc vs x
abbrev MO (sc : Scope) (vs : List Str) (e : E) (x : Option Expr) : Prop := NOpt e (mE e sc vs) x

theorem me_star {sc : Scope} {vs : List Str} {e : E} {x : Expr} (h : ME sc vs e x) (rest : List Expr) (env : Env) : starEach (x :: rest) env = (false, eval x env) :: starEach rest env := by cases e <;> cases h <;> rfl
theorem me_sub {sc : Scope} {vs : List Str} {e : E} {x : Expr} (h : ME sc vs e x) (o i : Value) : subscripted x false o i = operate [o, i] (getItem o i) := by cases e <;> cases h <;> rfl

structure Room (A : Around) (n : Nat) : Prop where
  hd : A.handled = none
  dp : A.depth + n < recursionLimit
  un : A.units + 4 * n + 80 < cLine
theorem Room.less {A : Around} {n m : Nat} (r : Room A n) (h : m ≤ n) : Room A m := ⟨r.hd, by have := r.dp; lia, by have := r.un; lia⟩
theorem Room.u64 {A : Around} {n : Nat} (r : Room A n) : A.units + 64 < cLine := by have := r.un; lia

structure WOK (W : Heap → Prop) (fn : String → Option Addr) : Prop where
  ext : ∀ {h h' : Heap}, W h → Ext h h' → W h'
  fns : ∀ {h : Heap} {f : String} {a : Addr}, W h → fn f = some a → ∃ o fd, h.get? a = some o ∧ o.data = .func fd
  nms : ∀ {h : Heap}, W h → ∃ mg mb, h.Ns mainGlobals mg ∧ h.Ns builtinsNs mb ∧ (∀ f a, fn f = some a → mg (Str.ofString f) = some (.ref a)) ∧ (∀ n v, biv n = some v → mg (Str.ofString n) = none ∧ mb (Str.ofString n) = some v)
  big : ∀ {h : Heap}, W h → sysModules < h.objs.size

structure EO (env : Env) : Prop where
  kf : env.scope.kind = .function
  gl : env.globals = mainGlobals
  bl : env.builtins = builtinsNs
  cl : ∀ x, env.kindOf x = some .cell → ∃ c, env.cells.lookup x = some c

def FunOK (prog : Program) (w : World) (W : Heap → Prop) (fn : String → Option Addr) (n : Nat) (f : String) (ds : List D) (r : R) : Prop :=
  ∃ a, fn f = some a ∧ ∀ (A : Around) (s : Shared) (U : Addr → Prop) (vals : List Value) (E : Value → Shared → Prop), Room A n → W s.heap → UB U s.heap → Reps prog w s.heap U vals ds →
    wpAny (model prog w) A (call (.ref a) vals) (fun v s' => St s s' ∧ Ext s.heap s'.heap ∧ RX prog w s.heap s'.heap U v r) E s

section
variable {prog : Program} {w : World} {W : Heap → Prop} {fn : String → Option Addr} {A : Around} {E : Value → Shared → Prop} {s : Shared} {env : Env} {U : Addr → Prop}

theorem load_fn (O : WOK W fn) (V : EO env) (hW : W s.heap) {f : String} {a : Addr} {p : Pos} {Q : Value → Shared → Prop} (g : gl env.scope f) (hf : fn f = some a) (h : Q (.ref a) s) : wpAny (model prog w) A (eval (.Name (Str.ofString f) p) env) Q E s := by
  obtain ⟨mg, mb, h1, h2, h3, h4⟩ := O.nms hW
  exact Calls.Name_function_global V.kf g.1 (Calls.loadGlobal_global (V.gl ▸ h1) (h3 f a hf) h) g.2
theorem load_bi (O : WOK W fn) (V : EO env) (hW : W s.heap) {f : String} {v : Value} {p : Pos} {Q : Value → Shared → Prop} (g : gl env.scope f) (hf : biv f = some v) (h : Q v s) : wpAny (model prog w) A (eval (.Name (Str.ofString f) p) env) Q E s := by
  obtain ⟨mg, mb, h1, h2, h3, h4⟩ := O.nms hW
  exact Calls.Name_function_global V.kf g.1 (Calls.loadGlobal_builtin (V.gl ▸ h1) (h4 f v hf).1 (V.bl ▸ h2) (h4 f v hf).2 h) g.2

/-- a call of a built-in or a type with plain arguments -/
theorem callWith_plain {pos : Pos} {f : Value} {args : List (Bool × Sem Value)} {Q : Value → Shared → Prop} (hf : ∀ a, f ≠ .ref a) (hplain : args.any (·.1) = false)
    (h : wpAny (model prog w) A (evalArgs f true args []) (fun a s₁ => wpAny (model prog w) A (call f a.pos a.kw) Q E s₁) E s) :
    wpAny (model prog w) A (callWith pos f [] args []) Q E s := by
  unfold callWith
  refine wpAny_bind (wpAny_holding (wpAny_mono h (fun a s₁ h₁ => wpAny_bind (wpAny_standAt ?_)) fun _ _ x => x))
  have hk : keeperOf f = pure Keeper.machine := by
    cases f with
    | ref a => exact absurd rfl (hf a)
    | _ => rfl
  simp only [hplain, List.any_nil, Bool.or_false, hk]
  refine wpAny_bind (wpAny_pure ?_)
  exact wpAny_bind (wpAny_mono h₁ (fun r s₂ hr => wpAny_bind (wpAny_holding (wpAny_point (wpAny_pure hr)))) fun _ _ x => x)

/-- one plain argument -/
theorem call1 {pos p1 : Pos} {nm : Str} {x : Expr} {f : Value} {Q : Value → Shared → Prop} (hf : ∀ a, f ≠ .ref a) (hst : starEach [x] env = (false, eval x env) :: starEach [] env)
    (hn : ∀ Q' : Value → Shared → Prop, Q' f s → wpAny (model prog w) A (eval (.Name nm p1) env) Q' E s)
    (h : wpAny (model prog w) A (eval x env) (fun v s₁ => wpAny (model prog w) A (call f [v]) Q E s₁) E s) : wpAny (model prog w) A (eval (.Call (.Name nm p1) [x] [] pos) env) Q E s := by
  show wpAny _ _ (do callWith pos (← eval (.Name nm p1) env) [] (backTo pos (starEach [x] env)) (backToKw pos (keywordEach [] env))) _ _ s
  refine wpAny_bind (hn _ ?_)
  rw [hst]
  show wpAny _ _ (callWith pos f [] [(false, eval x env)] []) _ _ s
  refine callWith_plain hf rfl (Calls.evalArgs_plain (Calls.spliced_cons (wpAny_mono h (fun v s₁ h₁ => Calls.spliced_nil h₁) fun _ _ e => e)))
end
end Mine
namespace Mine
open PySem
theorem mes_star {sc : Scope} {vs : List Str} {es : Es} {xs : List Expr} (h : MEs sc vs es xs) : ∀ y ∈ xs, ∀ rest env, starEach (y :: rest) env = (false, eval y env) :: starEach rest env := by
  induction xs generalizing es with
  | nil => intro y hy; cases hy
  | cons x xs ih =>
    cases es with
    | nil => cases h
    | cons e es =>
      cases h with
      | mk m ms =>
        intro y hy rest env
        rcases List.mem_cons.mp hy with rfl | hy
        · exact me_star m rest env
        · exact ih ms y hy rest env
end Mine

set_option maxRecDepth 100000
namespace Mine
open PySem PySem.Spec PyProof.Rows

def Itr (o : Obj) : Prop := o.cls = .type "list_iterator" ∨ o.cls = .type "range_iterator"
theorem Itr.nd {o : Obj} (h : Itr o) : ¬ Dat o := by
  rcases h with h | h <;> rintro (d | d | d) <;> rw [h] at d <;> simp at d
section
variable (prog : Program) (w : World)
/-- an iterator over known items -/
def ItAt (A : Around) (h₀ : Heap) (U : Addr → Prop) (xs : List D) (itv : Value) (h : Heap) : Prop :=
  ∃ I fp P Stt, itv = .ref I ∧ Walks prog w A I fp [I] xs.length P Stt ∧ Stt 0 h ∧ h₀.get? I = none ∧
    (∀ b ∈ fp, b = I ∨ (¬ U b ∧ ∃ o, h.get? b = some o ∧ Dat o)) ∧ (∀ i h', Stt i h' → ∃ o, h'.get? I = some o ∧ Itr o) ∧
    (∀ i v, P i v → ∃ d, xs[i]? = some d ∧ Rep prog w h U v d)
end

section
variable {prog : Program} {w : World} {W : Heap → Prop} {fn : String → Option Addr} {A : Around} {E : Value → Shared → Prop} {s : Shared} {env : Env} {U : Addr → Prop}

/-- a list is walked -/
theorem iter_list {v : Value} {xs : List D} (hh : A.handled = none) (hv : Rep prog w s.heap U v (.lst xs)) :
    wpAny (model prog w) A (pyIter v) (fun itv s₂ => St s s₂ ∧ Ext s.heap s₂.heap ∧ ItAt prog w A s.heap U xs itv s₂.heap) E s := by
  cases hv with
  | @lst a vs n _ u g r =>
    have hls : s.heap.IsList a vs.toArray := ⟨_, g, rfl, n, rfl⟩
    have hlt := Heap.lt_size g
    have e : Ext s.heap (s.heap.push { cls := .type "list_iterator", data := .fields #[.ref a, .int 0 0] }) := fun b o q => Heap.get?_push_of_some _ q
    have Wk := Walks.list (prog := prog) (w := w) hh s.heap.objs.size a (Nat.ne_of_lt hlt) vs.toArray
    rw [show vs.toArray.size = xs.length from by rw [List.size_toArray, r.length]] at Wk
    refine wpAny_pyIter_list hls ⟨⟨_, s.toks, rfl⟩, e, _, _, _, _, rfl, Wk, ⟨⟨_, Heap.get?_push_size _ rfl, rfl, rfl⟩, hls.push _⟩, size_none _ (Nat.le_refl _), fun b hb => ?_, fun i h' st => ?_, fun i v hv => ?_⟩
    · rcases List.mem_cons.mp hb with q | hb
      · exact .inl q
      · rw [List.mem_singleton.mp hb]
        exact .inr ⟨u, _, e _ _ g, .inl rfl⟩
    · obtain ⟨o, q, c, _⟩ := st.1
      exact ⟨o, q, .inl c⟩
    · obtain ⟨d, hd, rd⟩ := r.getv (k := i) (v := v) (by simpa using hv)
      exact ⟨d, hd, rd.ext e⟩
theorem small_of {n : Int} (h0 : 0 ≤ n) (h1 : n ≤ 4096) : Builtin.Range.small 0 n 1 = true := by
  unfold Builtin.Range.small
  have e := rangeSize_nat 0 n
  have f : ∀ k : Int, 0 ≤ k → k ≤ 4096 → Builtin.Range.rangeFitsLong k = true := fun k a b => by
    unfold Builtin.Range.rangeFitsLong
    simp only [Bool.and_eq_true, decide_eq_true_eq]
    lia
  rw [e, f 0 (by lia) (by lia), f n h0 h1, f 1 (by lia) (by lia), f _ (by lia) (by lia), if_pos (by decide), f (n + (1 - 1)) (by lia) (by lia)]
  simp
/-- a range is walked -/
theorem iter_range {n : Int} {t : Tok} {xs : List D} (hh : A.handled = none) (hx : rangeD n = some xs) :
    wpAny (model prog w) A (call (.type "range") [.int n t]) (fun xv s₁ => wpAny (model prog w) A (pyIter xv) (fun itv s₂ => St s s₂ ∧ Ext s.heap s₂.heap ∧ ItAt prog w A s.heap U xs itv s₂.heap) E s₁) E s := by
  unfold rangeD at hx
  split at hx
  · rename_i q
    cases hx
    have l4 : (lid : Int) = 4096 := rfl
    refine call_range_1 (wpAny_pyIter_range (IsRange.new ..) (small_of (by lia) (by lia)) ?_)
    have hsz : Builtin.Range.rangeSize 0 n 1 = (n.toNat : Int) := by rw [rangeSize_nat]; simp
    have Wk := (Walks.range (prog := prog) (w := w) hh (s.heap.objs.size + 1) 0 1 n.toNat).bound
    rw [show n.toNat = ((List.range n.toNat).map fun (i : Nat) => D.int (i : Int)).length from by simp] at Wk
    have e : ∀ o o', Ext s.heap ((s.heap.push o).push o') := fun o o' b q h => Heap.get?_push_of_some _ (Heap.get?_push_of_some _ h)
    refine ⟨⟨_, _, rfl⟩, e _ _, s.heap.objs.size + 1, _, _, _, ?_, Wk, ?_, size_none _ (Nat.le_succ _), fun b hb => .inl (List.mem_singleton.mp hb), fun i h' st => ⟨_, st, ?_⟩, fun i v hv => ?_⟩
    · show Value.ref (s.heap.push _).objs.size = _
      rw [Heap.size_push]
    · show IsRangeIter _ _ _ _ _
      rw [hsz]
      have := Heap.get?_push_size (s.heap.push { cls := .type "range", data := .fields #[.int 0 s.toks, .int n t, .int 1 (s.toks + 1)] }) (o := { cls := .type "range_iterator", data := .fields #[rawInt 0, rawInt (n.toNat : Int), rawInt 1] }) rfl
      rw [Heap.size_push] at this
      simpa using this
    · exact .inr rfl
    · obtain ⟨hi, t', rfl⟩ := hv
      simp only [List.length_map, List.length_range] at hi
      exact ⟨.int i, by simp [hi], by have : (0 : Int) + (i : Int) * 1 = i := by lia
                                      rw [this]; exact .int _ _⟩
  · cases hx

theorem closure_go {env : Env} : ∀ (names : List (Str × NameKind)) (acc : List (Str × Addr)), (∀ y ∈ names, y.2 = .free → ∃ c, env.cells.lookup y.1 = some c) → (∀ n c, (n, c) ∈ acc → env.cells.lookup n = some c) →
    ∃ cl, (forIn names acc fun (x : Str × NameKind) (r : List (Str × Addr)) => (if (x.2 == NameKind.free) = true then (do let a ← cellOf env x.1; pure (ForInStep.yield ((x.1, a) :: r))) else pure (ForInStep.yield r) : Sem (ForInStep (List (Str × Addr))))) = pure cl ∧
      (∀ n c, (n, c) ∈ cl → env.cells.lookup n = some c) ∧ (∀ y ∈ names, y.2 = .free → ∃ c, (y.1, c) ∈ cl) ∧ ∀ p ∈ acc, p ∈ cl
  | [], acc, _, ha => ⟨acc, rfl, ha, fun y hy => (nomatch hy), fun _ h => h⟩
  | (n, k) :: r, acc, hf, ha => by
    by_cases hk : (k == NameKind.free) = true
    · have hk' : k = .free := by simpa using hk
      obtain ⟨c, hc⟩ := hf (n, k) (.head _) hk'
      obtain ⟨cl, h1, h2, h3, h4⟩ := closure_go r ((n, c) :: acc) (fun y hy => hf y (.tail _ hy)) (fun n' c' hm => by
        rcases List.mem_cons.mp hm with q | q
        · cases q; exact hc
        · exact ha n' c' q)
      refine ⟨cl, ?_, h2, fun y hy hy2 => ?_, fun p hp => h4 p (.tail _ hp)⟩
      · rw [List.forIn_cons]
        simp only [hk, if_true, cellOf, hc]
        exact h1
      · rcases List.mem_cons.mp hy with q | q
        · subst q; exact ⟨c, h4 _ (.head _)⟩
        · exact h3 y q hy2
    · obtain ⟨cl, h1, h2, h3, h4⟩ := closure_go r acc (fun y hy => hf y (.tail _ hy)) ha
      refine ⟨cl, ?_, h2, fun y hy hy2 => ?_, h4⟩
      · rw [List.forIn_cons]
        simp only [hk]
        exact h1
      · rcases List.mem_cons.mp hy with q | q
        · subst q; simp only at hy2; subst hy2; simp at hk
        · exact h3 y q hy2
theorem lookup_of_all {l : List (Str × Addr)} {f : Str → Option Addr} {n : Str} (h : ∀ n c, (n, c) ∈ l → f n = some c) (hm : ∃ c, (n, c) ∈ l) : l.lookup n = f n := by
  induction l with
  | nil => obtain ⟨c, hc⟩ := hm; cases hc
  | cons p l ih =>
    obtain ⟨k, c'⟩ := p
    rw [List.lookup_cons]
    cases hb : n == k with
    | true => rw [beq_iff_eq.mp hb]; exact (h k c' (.head _)).symm
    | false =>
      refine ih (fun n c q => h n c (.tail _ q)) ?_
      obtain ⟨c, hc⟩ := hm
      rcases List.mem_cons.mp hc with q | q
      · cases q; simp at hb
      · exact ⟨c, q⟩
theorem closure_ok {scope : Scope} (hf : ∀ y ∈ scope.names, y.2 = .free → ∃ c, env.cells.lookup y.1 = some c) : ∃ cl, closureFor scope env = pure cl ∧ ∀ y ∈ scope.names, y.2 = .free → cl.lookup y.1 = env.cells.lookup y.1 := by
  obtain ⟨cl, h1, h2, h3, _⟩ := closure_go scope.names [] hf (fun _ _ h => (nomatch h))
  refine ⟨cl, ?_, fun y hy hy2 => lookup_of_all h2 (h3 y hy hy2)⟩
  unfold closureFor
  simp only [bind_pure]
  exact h1

/-- the names that a comprehension's block reads -/
theorem comp_rd {env : Env} {scope : Scope} {cl : List (Str × Addr)} {C : Addr} {vs : List Str} {cx : Str} {iter : Expr} {σ : Sto} {h h' : Heap} {m : Str → Option Value} {v : Value} {d : D}
    (O : CompOK env.scope scope cx vs iter) (hcl : ∀ y ∈ scope.names, y.2 = .free → cl.lookup y.1 = env.cells.lookup y.1) (R : Rd prog w env vs U σ h) (hlen : σ.length = vs.length)
    (hk : Ext h h') (hn : h'.Ns C m) (hm : m cx = some v) (hv : Rep prog w h' U v d) :
    Rd prog w (compEnvC scope cl C env) (vs ++ [cx]) U (σ ++ [some (.val d)]) h' := by
  intro i x r hx hkind hr
  have hkd : (compEnvC scope cl C env).kindOf x = (relab scope env.scope).names.lookup x := rfl
  rw [hkd] at hkind
  by_cases hi : i < vs.length
  · rw [List.getElem?_append_left hi] at hx
    have hr' : rd σ i = some r := by
      unfold rd at hr ⊢
      rwa [List.getElem?_append_left (by lia)] at hr
    have hxv : x ∈ vs := List.mem_of_getElem? hx
    rcases hkind with hkind | hkind
    · rcases O.loc2 _ (mem_of_lookup hkind) rfl with q | q
      · exact absurd (q ▸ hxv) O.new
      · exact absurd hxv q
    · have hfree := O.cells _ (mem_of_lookup hkind) rfl
      have hcell : env.kindOf x = some .cell := O.free _ hfree rfl
      obtain ⟨u, fp, l, q⟩ := R i x r hx (.inr hcell) hr'
      refine ⟨u, fp, .inr ⟨hkind, ?_⟩, q.ext hk⟩
      rcases l with ⟨k, _⟩ | ⟨_, c, lc, ic⟩
      · rw [hcell] at k; cases k
      · exact ⟨c, (hcl _ hfree rfl).trans lc, ic.keeps hk⟩
  · have hi' : i = vs.length := by
      have := (List.getElem?_eq_some_iff.mp hx).1
      simp at this
      lia
    subst hi'
    have hx' : cx = x := by simpa using hx
    subst hx'
    have hr' : r = .val d := by
      unfold rd at hr
      rw [← hlen] at hr
      simp at hr
      exact hr.symm
    subst hr'
    refine ⟨v, [], .inl ⟨?_, m, hn, hm⟩, .val hv⟩
    rw [hkd]
    exact lookup_relabel_local (env := env) O.cxl

theorem mapO_get {f : D → Option D} : ∀ {xs ys : List D}, mapO f xs = some ys → xs.length = ys.length ∧ ∀ (i : Nat) (x : D), xs[i]? = some x → ∃ y, ys[i]? = some y ∧ f x = some y
  | [], ys, e => by simp [mapO] at e; subst e; exact ⟨rfl, fun i x h => by simp at h⟩
  | x :: xs, ys, e => by
    simp only [mapO] at e
    cases hf : f x with
    | none => rw [hf] at e; simp at e
    | some y =>
      rw [hf] at e
      simp only [Option.bind_some, Option.map_eq_some_iff] at e
      obtain ⟨zs, e1, rfl⟩ := e
      obtain ⟨h1, h2⟩ := mapO_get e1
      refine ⟨by simp [h1], fun i z hz => ?_⟩
      cases i with
      | zero => simp at hz; subst hz; exact ⟨y, rfl, hf⟩
      | succ i => exact h2 i z (by simpa using hz)

def UDC (U : Addr → Prop) (D C : Addr) (a : Addr) : Prop := U a ∨ a = D ∨ a = C

set_option maxHeartbeats 1000000 in
theorem comp_loop {elt iter : Expr} {cx : Str} {px pos : Pos} {scope : Scope} {I D C : Addr} {fp : List Addr} {P : Nat → Value → Prop} {Stt : Nat → Heap → Prop} {cenv : Env} {m₀ : Str → Option Value} {xs ys : List Mine.D} {f : Mine.D → Option Mine.D} {h₂ : Heap} {R : Result → Shared → Prop}
    (Wk : Walks prog w A I fp [I] xs.length P Stt) (hC : cenv.locals = C) (hx : cenv.kindOf cx = some .local) (hkf : cenv.scope.kind = .function) (hDC : D ≠ C) (hID : I ≠ D) (hIC : I ≠ C)
    (hfp : ∀ b ∈ fp, b = I ∨ (b ≠ C ∧ b ≠ D ∧ ∃ o, h₂.get? b = some o)) (hst : Stt 0 s.heap) (hDn : h₂.get? D = none) (hCn : h₂.get? C = none) (e₂ : Ext h₂ s.heap)
    (hI : ∀ i h', Stt i h' → ∃ o, h'.get? I = some o ∧ ¬ Dat o) (hI₂ : ∃ o, h₂.get? I = some o ∧ ¬ Dat o)
    (hP : ∀ i v, P i v → ∃ d, xs[i]? = some d ∧ Rep prog w h₂ U v d) (hacc : s.heap.get? D = some (lstObj [] 0)) (hn : s.heap.Ns C m₀)
    (hy : mapO f xs = some ys) (hly : ys.length ≤ lid)
    (helt : ∀ (s₃ : Shared) (m₃ : Str → Option Value) (v : Value) (d y : Mine.D) (E' : Value → Shared → Prop), St s s₃ → f d = some y → Rep prog w s₃.heap (UDC U D C) v d → s₃.heap.Ns C m₃ → m₃ cx = some v → (∀ b o, b ≠ C → b ≠ D → b ≠ I → h₂.get? b = some o → s₃.heap.get? b = some o) → (∃ o, s₃.heap.get? D = some o) →
      wpAny (model prog w) A (eval elt cenv) (fun u s' => St s₃ s' ∧ Ext s₃.heap s'.heap ∧ Rep prog w s'.heap (UDC U D C) u y) E' s₃)
    (hR : ∀ s₅ m ws n, St s s₅ → (∀ b o, b ≠ C → b ≠ D → b ≠ I → h₂.get? b = some o → s₅.heap.get? b = some o) → s₅.heap.Ns C m → s₅.heap.get? D = some (lstObj ws n) → Reps prog w s₅.heap (UDC U D C) ws ys → R (.ok .next) s₅) :
    codeAny (model prog w) A (.compLoop (.ListComp elt [⟨.Name cx px, iter, [], 0⟩] scope pos) 0 (.ref I) (.ref D) cenv) R s := by
  subst hC
  obtain ⟨hlen, hget⟩ := mapO_get hy
  have rmove : ∀ {v : Value} {d : Mine.D} {h' : Heap}, (∀ b o, b ≠ cenv.locals → b ≠ D → b ≠ I → h₂.get? b = some o → h'.get? b = some o) → Rep prog w h₂ U v d → Rep prog w h' (UDC U D cenv.locals) v d := fun {v d h'} hk r => by
    refine r.move (fun a o _ q dd => hk a o (fun e => ?_) (fun e => ?_) (fun e => ?_) q) fun a o u q dd y => y.elim u fun y => y.elim (fun e => ?_) fun e => ?_
    · rw [e, hCn] at q; cases q
    · rw [e, hDn] at q; cases q
    · obtain ⟨o', q', nd⟩ := hI₂
      rw [e, q'] at q
      cases q
      exact nd dd
    · rw [e, hDn] at q; cases q
    · rw [e, hCn] at q; cases q
  refine codeAny_compLoop_list
    (fun k s' => ∃ (i : Nat) (m : Str → Option Value) (ws : List Value) (n : Nat), k = xs.length + 1 - i ∧ i ≤ xs.length ∧ St s s' ∧ Stt i s'.heap ∧ s'.heap.get? D = some (lstObj ws n) ∧ Reps prog w s'.heap (UDC U D cenv.locals) ws (ys.take i) ∧ s'.heap.Ns cenv.locals m ∧
      (∀ b o, b ≠ cenv.locals → b ≠ D → b ≠ I → h₂.get? b = some o → s'.heap.get? b = some o)) ?_ (xs.length + 1)
    ⟨0, m₀, [], 0, rfl, Nat.zero_le _, .refl s, hst, hacc, by simpa using .nil, hn, fun b o _ _ _ q => e₂ b o q⟩
  rintro k s' ⟨i, m, ws, n, rfl, hi, st, hSt, hD, hw, hn', hk⟩
  obtain ⟨oI, qI, ndI⟩ := hI i _ hSt
  by_cases hlt : i < xs.length
  · refine Wk.item i _ _ _ hlt hSt fun v h₁ tk₁ hPv hst₁ hk₁ => ?_
    obtain ⟨d, hxd, hrd⟩ := hP i v hPv
    obtain ⟨y, hyd, hfd⟩ := hget i d hxd
    have k1 : ∀ b o, b ≠ I → s'.heap.get? b = some o → h₁.get? b = some o := fun b o hb q => hk₁ b o (fun hm => hb (List.mem_singleton.mp hm)) q
    refine wpAny_assign_Name (wpAny_storeName_local hx (hn'.at' fun o q => k1 _ o hIC.symm q) (fun h₂' hn₂ hs₂ => ?_) (by rw [hkf]; rfl))
    have k2 : ∀ b o, b ≠ I → b ≠ cenv.locals → s'.heap.get? b = some o → h₂'.get? b = some o := fun b o hb hc q => hs₂.extBut b o hc (k1 b o hb q)
    have kall : ∀ b o, b ≠ cenv.locals → b ≠ D → b ≠ I → h₂.get? b = some o → h₂'.get? b = some o := fun b o hb1 hb2 hb3 q => k2 b o hb3 hb1 (hk b o hb1 hb2 hb3 q)
    have hD₂ : h₂'.get? D = some (lstObj ws n) := k2 D _ hID.symm hDC hD
    have wmove : ∀ h' : Heap, (∀ b o, h₂'.get? b = some o → b ≠ D → h'.get? b = some o) → Reps prog w h' (UDC U D cenv.locals) ws (ys.take i) := fun h' hh => by
      refine hw.move (fun a o u q dd => hh a o (k2 a o (fun e => ?_) (fun e => u (.inr (.inr e))) q) (fun e => u (.inr (.inl e)))) fun _ _ u _ _ => u
      rw [e, qI] at q; cases q; exact ndI dd
    refine wpAny_mono (helt _ _ v d y _ (st.trans ⟨h₂', _, rfl⟩) hfd (rmove kall hrd) hn₂ (by simp) kall ⟨_, hD₂⟩) (fun u s₃ h₃ => ?_) fun _ _ e => e
    obtain ⟨st₃, e₃, ru⟩ := h₃
    have hD₃ : s₃.heap.get? D = some (lstObj ws n) := e₃ _ _ hD₂
    have hwl : ws.length ≤ lid := by
      have h1 := hw.length
      rw [List.length_take] at h1
      lia
    refine wpAny_list_append_plain (items := ws.toArray) ⟨n, hD₃⟩ (fun h₄ hl₄ hs₄ => ?_) (by rw [List.size_toArray]; exact Nat.le_trans hwl lid_le)
    obtain ⟨n₄, hD₄⟩ := hl₄
    obtain ⟨h₃', tk₃, rfl⟩ := st₃
    refine ⟨xs.length + 1 - (i + 1), by lia, i + 1, (fun y => if y = cx then some v else m y), ws ++ [u], n₄, rfl, hlt, st.trans ⟨h₄, tk₃, rfl⟩, ?_, by simpa using hD₄, ?_, ?_, ?_⟩
    · refine Wk.frame _ _ _ hst₁ fun b hb o q => ?_
      have hbD : b ≠ D ∧ b ≠ cenv.locals := by
        rcases hfp b hb with rfl | ⟨h1, h2, _⟩
        · exact ⟨hID, hIC⟩
        · exact ⟨h2, h1⟩
      exact (hs₄.2 b hbD.1).trans (e₃ _ _ (hs₂.extBut b o hbD.2 q))
    · have et : ys.take (i + 1) = ys.take i ++ [y] := by rw [List.take_add_one, hyd]; rfl
      rw [et]
      refine (wmove h₄ fun b o q hb => (hs₄.2 b hb).trans (e₃ _ _ q)).append (.cons (ru.move (fun a o u q _ => (hs₄.2 a fun e => u (.inr (.inl e))).trans q) fun _ _ u _ _ => u) .nil)
    · exact (hn₂.keeps e₃).sameBut hs₄ hDC.symm
    · exact fun b o hb1 hb2 hb3 q => (hs₄.2 b hb2).trans (e₃ _ _ (kall b o hb1 hb2 hb3 q))
  · have hin : i = xs.length := by lia
    subst hin
    refine Wk.done _ _ _ hSt fun h₁ tk₁ hk₁ => ?_
    have k1 : ∀ b o, b ≠ I → s'.heap.get? b = some o → h₁.get? b = some o := fun b o hb q => hk₁ b o (fun hm => hb (List.mem_singleton.mp hm)) q
    refine hR _ m ws n (st.trans ⟨h₁, tk₁, rfl⟩) (fun b o hb1 hb2 hb3 q => k1 b o hb3 (hk b o hb1 hb2 hb3 q)) (hn'.at' fun o q => k1 _ o hIC.symm q) (k1 _ _ hID.symm hD) ?_
    rw [hlen, List.take_length] at hw
    refine hw.move (fun a o u q dd => k1 a o (fun e => ?_) q) fun _ _ u _ _ => u
    rw [e, qI] at q
    cases q
    exact ndI dd
end
end Mine

set_option maxRecDepth 100000
namespace Mine
open PySem PySem.Spec PyProof.Rows

section
variable {prog : Program} {w : World} {W : Heap → Prop} {fn : String → Option Addr} {A : Around} {E : Value → Shared → Prop} {s : Shared} {env : Env} {U : Addr → Prop}

theorem eo_comp {scope : Scope} {cl : List (Str × Addr)} {C : Addr} {vs : List Str} {cx : Str} {iter : Expr} (V : EO env) (O : CompOK env.scope scope cx vs iter) (hcl : ∀ y ∈ scope.names, y.2 = .free → cl.lookup y.1 = env.cells.lookup y.1) : EO (compEnvC scope cl C env) :=
  ⟨O.kind, V.gl, V.bl, fun x hx => by
    have hx' : (relab scope env.scope).names.lookup x = some .cell := hx
    have hfree := O.cells _ (mem_of_lookup hx') rfl
    obtain ⟨c, hc⟩ := V.cl x (O.free _ hfree rfl)
    exact ⟨c, (hcl _ hfree rfl).trans hc⟩⟩

set_option maxHeartbeats 1000000 in
/-- a comprehension over known items -/
theorem comp_core {elt iter : Expr} {cx : Str} {px pos p : Pos} {scope : Scope} {vs : List Str} {σ : Sto} {xs ys : List D} {f : D → Option D} {use : Option (Value → Sem Unit)} {Q : Value → Shared → Prop}
    (O : WOK W fn) (V : EO env) (hW : W s.heap) (hU : UB U s.heap) (OK : CompOK env.scope scope cx vs iter) (R : Rd prog w env vs U σ s.heap) (hlen : σ.length = vs.length)
    (hit : wpAny (model prog w) A (eval iter env) (fun xv s₁ => wpAny (model prog w) A (pyIter xv) (fun itv s₂ => St s s₂ ∧ Ext s.heap s₂.heap ∧ ItAt prog w A s.heap U xs itv s₂.heap) E s₁) E s)
    (hy : mapO f xs = some ys) (hly : ys.length ≤ lid)
    (helt : ∀ (cenv : Env) (s₃ : Shared) (U' : Addr → Prop) (d y : D) (E' : Value → Shared → Prop), cenv.scope = relab scope env.scope → EO cenv → W s₃.heap → UB U' s₃.heap → Rd prog w cenv (vs ++ [cx]) U' (σ ++ [some (.val d)]) s₃.heap → f d = some y →
      wpAny (model prog w) A (eval elt cenv) (fun u s' => St s₃ s' ∧ Ext s₃.heap s'.heap ∧ Rep prog w s'.heap U' u y) E' s₃)
    (hQ : ∀ (D C : Addr) (s₅ : Shared) (m : Str → Option Value), s.heap.get? C = none → D ≠ C → St s s₅ → Ext s.heap s₅.heap → s₅.heap.Ns C m → RX prog w s.heap s₅.heap (fun a => U a ∨ a = C) (.ref D) (.own ys) → compPost (model prog w) A E use Q (.ref D) C (.ok .next) s₅) :
    wpAny (model prog w) A (comprehension (.ListComp elt [⟨.Name cx px, iter, [], 0⟩] scope pos) scope env p (newList []) false (eval iter env) use) Q E s := by
  obtain ⟨cl, hcl, hcl2⟩ := closure_ok (env := env) (scope := scope) (fun y hy hy2 => V.cl _ (OK.free y hy hy2))
  refine wpAny_comprehension_free (g := ⟨.Name cx px, iter, [], 0⟩) (gs := []) rfl (fun x => OK.fold env x) hcl OK.kind OK.locs (wpAny_mono hit (fun xv s₁ h₁ => wpAny_mono h₁ (fun itv s₂ h₂ => ?_) fun _ _ e => e) fun _ _ e => e)
  obtain ⟨st₂, e₂, I, fp, P, Stt, rfl, Wk, hst, hIn, hfp, hnd', hP⟩ := h₂
  have hnd : ∀ i h', Stt i h' → ∃ o, h'.get? I = some o ∧ ¬ Dat o := fun i h' q => let ⟨o, a, b⟩ := hnd' i h' q; ⟨o, a, b.nd⟩
  obtain ⟨oI, qI, ndI⟩ := hnd 0 _ hst
  refine wpAny_newObj_type (wpAny_newFunctionEnv OK.nocell (by intro y hy; simp at hy) (fun h₁ hns₁ hsb₁ => ?_) OK.kind)
  dsimp only at hns₁ hsb₁ ⊢
  generalize hH2 : s₂.heap.push { cls := .type "list", dict := none, data := .seq ([] : List Value).toArray } = H2 at hns₁ hsb₁ ⊢
  have hC : H2.objs.size = s₂.heap.objs.size + 1 := by rw [← hH2, Heap.size_push]
  have hDC : s₂.heap.objs.size ≠ H2.objs.size := by rw [hC]; exact Nat.ne_of_lt (Nat.lt_succ_self _)
  have below : ∀ b, b < s₂.heap.objs.size → b ≠ H2.objs.size ∧ b ≠ s₂.heap.objs.size := fun b hb => ⟨by rw [hC]; exact Nat.ne_of_lt (Nat.lt_succ_of_lt hb), Nat.ne_of_lt hb⟩
  have old : Ext s₂.heap h₁ := fun b o q => hsb₁.extBut b o (below b (Heap.lt_size q)).1 (Heap.get?_push_of_some _ (hH2 ▸ Heap.get?_push_of_some _ q))
  have hacc : h₁.get? s₂.heap.objs.size = some (lstObj [] 0) := hsb₁.extBut _ _ hDC (Heap.get?_push_of_some _ (hH2 ▸ Heap.get?_push_size _ rfl))
  have fD : s₂.heap.get? s₂.heap.objs.size = none := size_none _ (Nat.le_refl _)
  have fC : s₂.heap.get? H2.objs.size = none := size_none _ (by rw [hC]; exact Nat.le_succ _)
  have hIlt := Heap.lt_size qI
  have hst₁ : Stt 0 h₁ := Wk.frame _ _ _ hst fun b _ o q => old b o q
  have loop : codeAny (model prog w) A (.compLoop (.ListComp elt [⟨.Name cx px, iter, [], 0⟩] scope pos) 0 (.ref I) (.ref s₂.heap.objs.size) (compEnvC scope cl H2.objs.size env))
      (compPost (model prog w) A E use Q (.ref s₂.heap.objs.size) H2.objs.size) { s₂ with heap := h₁, toks := s₂.toks + ([] : List (Str × Value)).length } := by
    refine comp_loop (h₂ := s₂.heap) (C := H2.objs.size) (U := U) Wk rfl (lookup_relabel_local OK.cxl) OK.kind hDC (below I hIlt).2 (below I hIlt).1 (fun b hb => ?_) hst₁ fD fC old hnd ⟨oI, qI, ndI⟩ hP hacc hns₁ hy hly ?_ ?_
    · rcases hfp b hb with q | ⟨_, o, q, _⟩
      · exact .inl q
      · exact .inr ⟨(below b (Heap.lt_size q)).1, (below b (Heap.lt_size q)).2, o, q⟩
    · intro s₃ m₃ v d y E' st₃ hf hv hn₃ hm₃ hk₃ hD₃
      have e₃ : Ext s.heap s₃.heap := fun b o q => by
        have q2 := e₂ b o q
        refine hk₃ b o (below b (Heap.lt_size q2)).1 (below b (Heap.lt_size q2)).2 (fun e => ?_) q2
        rw [e, hIn] at q
        cases q
      have hR' : Rd prog w env vs (UDC U s₂.heap.objs.size H2.objs.size) σ s.heap := R.fresh (F := fun a => a = s₂.heap.objs.size ∨ a = H2.objs.size) fun a ha => by
        rcases ha with rfl | rfl
        · exact fresh_none e₂ fD
        · exact fresh_none e₂ fC
      refine helt (compEnvC scope cl H2.objs.size env) s₃ (UDC U s₂.heap.objs.size H2.objs.size) d y E' rfl (eo_comp V OK hcl2) (O.ext hW e₃) ?_ (comp_rd OK hcl2 hR' hlen e₃ hn₃ hm₃ hv) hf
      rintro a (q | q | q)
      · exact (hU.ext e₃) a q
      · rw [q]; exact hD₃
      · rw [q]; obtain ⟨o, _, _, ho, _⟩ := hn₃; exact ⟨o, ho⟩
    · intro s₅ m ws n st₅ hk₅ hn₅ hD₅ hr₅
      have e₅ : Ext s.heap s₅.heap := fun b o q => by
        have q2 := e₂ b o q
        refine hk₅ b o (below b (Heap.lt_size q2)).1 (below b (Heap.lt_size q2)).2 (fun e => ?_) q2
        rw [e, hIn] at q
        cases q
      refine hQ _ _ s₅ m (fresh_none e₂ fC) hDC (st₂.trans ((St.mk' s₂ h₁ _).trans st₅)) e₅ hn₅ ⟨[s₂.heap.objs.size], .own hD₅ (hr₅.less ?_), ?_, by simp⟩
      · rintro a ((q | q) | q)
        · exact .inl q
        · exact .inr (.inr q)
        · exact .inr (.inl (List.mem_singleton.mp q))
      · intro a ha
        rw [List.mem_singleton.mp ha]
        exact fresh_none e₂ fD
  exact codeAny_compStart_list loop (Wk.self 0 _ _ _ hst₁ loop)
end
end Mine

set_option maxRecDepth 100000
namespace Mine
open PySem PySem.Spec PyProof.Rows

def frs : E → Bool
  | .lst _ => true
  | .bin _ _ _ => true
  | .bi .list _ => true
  | .comp _ _ => true
  | _ => false

structure Cx (prog : Program) (w : World) (W : Heap → Prop) (env : Env) (vs : List Str) (U : Addr → Prop) (σ : Sto) (h : Heap) : Prop where
  eo : EO env
  wl : W h
  ub : UB U h
  rd : Rd prog w env vs U σ h
  len : σ.length = vs.length

section
variable {prog : Program} {w : World} {W : Heap → Prop} {fn : String → Option Addr} {A : Around} {n : Nat} {Γ : Gam}

theorem Cx.ext {env : Env} {vs : List Str} {U : Addr → Prop} {σ : Sto} {h h' : Heap} (O : WOK W fn) (c : Cx prog w W env vs U σ h) (e : Ext h h') : Cx prog w W env vs U σ h' :=
  ⟨c.eo, O.ext c.wl e, c.ub.ext e, c.rd.ext e, c.len⟩

/-- looked at -/
def BPost (prog : Program) (w : World) (s : Shared) (U : Addr → Prop) (d : D) (v : Value) (s' : Shared) : Prop := St s s' ∧ Ext s.heap s'.heap ∧ BRep prog w s'.heap U v d

theorem Post.bp {s s' : Shared} {U : Addr → Prop} {f : Bool} {d : D} {v : Value} (p : Post prog w s U f d v s') : BPost prog w s U d v s' := ⟨p.st, p.ext, p.rep.b⟩

theorem brw_ok {e : E} {sc : Scope} {vs : List Str} {x : Expr} {env : Env} {s : Shared} {U : Addr → Prop} {σ : Sto} {d : D} {E : Value → Shared → Prop} (m : ME sc vs e x) (hsc : env.scope = sc) (c : Cx prog w W env vs U σ s.heap) (he : brw e σ (ev Γ e σ) = some d)
    (ih : ev Γ e σ = some d → wpAny (model prog w) A (eval x env) (Post prog w s U (frs e) d) E s) : wpAny (model prog w) A (eval x env) (BPost prog w s U d) E s := by
  have other : ev Γ e σ = some d → wpAny (model prog w) A (eval x env) (BPost prog w s U d) E s := fun q => wpAny_mono (ih q) (fun _ _ p => p.bp) fun _ _ e => e
  cases e with
  | var i =>
    cases m with
    | @mk x p hx hk hd =>
      simp only [brw, rdB] at he
      subst hsc
      cases hr : rd σ i with
      | none => rw [hr] at he; cases he
      | some r =>
        obtain ⟨v, fp, l, rs⟩ := c.rd i x r hx hk hr
        rw [hr] at he
        refine wpAny_Name (l.wp c.eo.kf ⟨.refl s, fun _ _ q => q, ?_⟩) hd
        cases rs with
        | val a => cases he; exact a.b
        | own g r => cases he; exact ⟨_, _, _, rfl, g, r⟩
        | tup _ _ _ => cases he
  | _ => exact other he

theorem post_int {s s' : Shared} {U : Addr → Prop} {f : Bool} {i : Int} {v : Value} (p : Post prog w s U f (.int i) v s') : ∃ t, v = .int i t := p.rep.b.int

theorem bind_some {α β : Type} {x : Option α} {f : α → Option β} {y : β} (h : x.bind f = some y) : ∃ a, x = some a ∧ f a = some y := Option.bind_eq_some_iff.mp h

theorem if_some {α : Type} {c : Prop} [Decidable c] {a b : α} (h : (if c then some a else none) = some b) : c ∧ a = b := by
  by_cases q : c
  · exact ⟨q, Option.some.inj ((if_pos q).symm.trans h)⟩
  · cases (if_neg q).symm.trans h
theorem onL_some {g : List D → Option D} {x d : D} (h : onL g x = some d) : ∃ xs, x = .lst xs ∧ g xs = some d := by
  cases x with
  | lst xs => exact ⟨xs, rfl, h⟩
  | _ => cases h
theorem biStr_some {x d : D} (h : biStr x = some d) : ∃ i : Int, x = .int i ∧ i.natAbs < 1000000 ∧ .str (Str.ofString (toString i)) = d := by
  cases x with
  | int i => obtain ⟨a, b⟩ := if_some h; exact ⟨i, rfl, a, b⟩
  | _ => cases h
theorem biItems_some {x d : D} (h : biItems x = some d) : ∃ ks ds, x = .dic ks ds ∧ (ks.length = ds.length ∧ ks.length ≤ lid) ∧ .lst ((ks.zip ds).map fun p => .tup [.int p.1, p.2]) = d := by
  cases x with
  | dic ks ds => obtain ⟨a, b⟩ := if_some h; exact ⟨ks, ds, rfl, a, b⟩
  | _ => cases h
theorem mk_some {xs : List D} {d : D} (h : mk xs = some d) : xs.length ≤ lid ∧ .lst xs = d := if_some h
theorem rdV_some {σ : Sto} {i : Nat} {d : D} (h : rdV σ i = some d) : rd σ i = some (.val d) := by
  have h : (match rd σ i with | some (.val d) => some d | _ => none) = some d := h
  cases hr : rd σ i with
  | none => rw [hr] at h; cases h
  | some r => rw [hr] at h; cases r <;> cases h; rfl

/-- the bools of a test -/
def TPost (s : Shared) (c b : Bool) (s' : Shared) : Prop := St s s' ∧ Ext s.heap s'.heap ∧ b = c
def VsPost (prog : Program) (w : World) (s : Shared) (U : Addr → Prop) (ds : List D) (vs : List Value) (s' : Shared) : Prop := St s s' ∧ Ext s.heap s'.heap ∧ Reps prog w s'.heap U vs ds
def IPost (prog : Program) (w : World) (A : Around) (s : Shared) (U : Addr → Prop) (xs : List D) (E : Value → Shared → Prop) (xv : Value) (s₁ : Shared) : Prop :=
  wpAny (model prog w) A (pyIter xv) (fun itv s₂ => St s s₂ ∧ Ext s.heap s₂.heap ∧ ItAt prog w A s.heap U xs itv s₂.heap) E s₁

theorem ItAt.since {A : Around} {h₀ h₁ h : Heap} {U : Addr → Prop} {xs : List D} {v : Value} (e : Ext h₀ h₁) (x : ItAt prog w A h₁ U xs v h) : ItAt prog w A h₀ U xs v h := by
  obtain ⟨I, fp, P, Stt, h1, h2, h3, h4, h5⟩ := x
  exact ⟨I, fp, P, Stt, h1, h2, h3, fresh_none e h4, h5⟩

theorem comp_val {σ : Sto} {a i : Mine.E} {d : D} (h : comp? σ a i = some d) : ∃ j k cs, a = .var j ∧ i = .int k ∧ rd σ j = some (.tup cs) ∧ 0 ≤ k ∧ k < lid ∧ cs[k.toNat]? = some (.val d) := by
  unfold comp? at h
  split at h
  · rename_i j k
    cases hr : rd σ j with
    | none => rw [hr] at h; simp at h
    | some r =>
      rw [hr] at h
      cases r with
      | tup cs =>
        simp only at h
        split at h
        · rename_i q
          cases hc : cs[k.toNat]? with
          | none => rw [hc] at h; simp at h
          | some c =>
            rw [hc] at h
            cases c with
            | val d' => simp at h; subst h; exact ⟨j, k, cs, rfl, rfl, hr, q.1, q.2, hc⟩
            | _ => simp at h
        · cases h
      | _ => simp at h
  · cases h
theorem CS.val_at {h : Heap} {U : Addr → Prop} {vs : List Value} {cs : List C} {fp : List Addr} (c : CS prog w h U vs cs fp) : ∀ {k : Nat} {d : D}, cs[k]? = some (.val d) → ∃ v, vs[k]? = some v ∧ Rep prog w h U v d := by
  induction c with
  | nil => intro k d e; simp at e
  | val a _ ih =>
    intro k d e
    cases k with
    | zero => simp at e; subst e; exact ⟨_, rfl, a⟩
    | succ k => exact ih (by simpa using e)
  | own _ _ _ ih =>
    intro k d e
    cases k with
    | zero => simp at e
    | succ k => exact ih (by simpa using e)
  | gone _ ih =>
    intro k d e
    cases k with
    | zero => simp at e
    | succ k => exact ih (by simpa using e)

theorem slc3_ok {d x y z : D} (h : slc3 x y z = some d) : ∃ xs lo hi ys, x = .lst xs ∧ d = .lst ys ∧ xs.length ≤ lid ∧ (y = .non ∧ lo = none ∨ ∃ k : Int, y = .int k ∧ lo = some k) ∧ (z = .non ∧ hi = none ∨ ∃ k : Int, z = .int k ∧ hi = some k) ∧
    ∀ {hp : Heap} {U : Addr → Prop} {vs : List Value}, Reps prog w hp U vs xs → Reps prog w hp U (slicePick vs.toArray lo hi none).toList ys := by
  unfold slc3 at h
  split at h
  · rename_i xs a b
    split at h
    · rename_i q
      cases h
      refine ⟨xs, some a, some b, _, rfl, rfl, q.2.2, .inr ⟨a, rfl, rfl⟩, .inr ⟨b, rfl, rfl⟩, fun {hp U vs} r => ?_⟩
      obtain ⟨a', rfl⟩ := Int.eq_ofNat_of_zero_le q.1
      obtain ⟨b', rfl⟩ := Int.eq_ofNat_of_zero_le q.2.1
      have e : (slicePick vs.toArray (some (a' : Int)) (some (b' : Int)) none).toList = (vs.drop a').take (b' - a') := by
        rw [slicePick_plain]
        simp only [Option.elim, clipAt_nat, List.size_toArray]
        by_cases ha : a' ≤ vs.length
        · rw [Nat.min_eq_left ha]
          by_cases hb : b' ≤ vs.length
          · rw [Nat.min_eq_left hb]
          · rw [Nat.min_eq_right (by lia)]
            rw [List.take_of_length_le (by simp), List.take_of_length_le (by simp; lia)]
        · have ha' : min a' vs.length = vs.length := Nat.min_eq_right (by lia)
          rw [ha', List.drop_eq_nil_of_le (Nat.le_refl _), List.drop_eq_nil_of_le (i := a') (by lia)]
          simp
      rw [e]
      simpa using (r.drop a').take (b' - a')
    · cases h
  · rename_i xs b
    split at h
    · rename_i q
      cases h
      refine ⟨xs, none, some b, _, rfl, rfl, q.2, .inl ⟨rfl, rfl⟩, .inr ⟨b, rfl, rfl⟩, fun {hp U vs} r => ?_⟩
      obtain ⟨b', rfl⟩ := Int.eq_ofNat_of_zero_le q.1
      rw [slicePick_upto']
      simpa using r.take b'
    · cases h
  · rename_i xs a
    split at h
    · rename_i q
      cases h
      refine ⟨xs, some a, none, _, rfl, rfl, q.2, .inr ⟨a, rfl, rfl⟩, .inl ⟨rfl, rfl⟩, fun {hp U vs} r => ?_⟩
      obtain ⟨a', rfl⟩ := Int.eq_ofNat_of_zero_le q.1
      rw [slicePick_from']
      simpa using r.drop a'
    · cases h
  · cases h

theorem dd0 : dictDisplay [] = newDict := rfl
theorem dic0_ok {s : Shared} {U : Addr → Prop} {E : Value → Shared → Prop} {f : Bool} (hU : UB U s.heap) (hbig : sysModules < s.heap.objs.size) : wpAny (model prog w) A newDict (Post prog w s U f (.dic [] [])) E s := by
  unfold newDict
  refine wpAny_newObj_type ?_
  have e : Ext s.heap (s.heap.push { cls := .type "dict", data := .dict #[] }) := fun b o q => Heap.get?_push_of_some _ q
  refine ⟨⟨_, s.toks, rfl⟩, e, .dic (kvs := []) (fun u => ?_) (beq_eq_false_iff_ne.mpr (Nat.ne_of_gt hbig)) (Heap.DictOf.new s.heap) rfl rfl .nil, fun _ xs q => nomatch q⟩
  obtain ⟨o, q⟩ := hU _ u
  exact Nat.lt_irrefl _ (Heap.lt_size q)
end
end Mine

set_option maxRecDepth 100000
namespace Mine
open PySem PySem.Spec PyProof.Rows

section
variable {prog : Program} {w : World} {W : Heap → Prop} {fn : String → Option Addr} {A : Around} {n : Nat} {Γ : Gam}

theorem Post.bind {s s₁ s' : Shared} {U : Addr → Prop} {f : Bool} {d : D} {v : Value} (st : St s s₁) (e : Ext s.heap s₁.heap) (p : Post prog w s₁ U f d v s') : Post prog w s U f d v s' := p.after st e

theorem RX.toD {h₀ h : Heap} {U : Addr → Prop} {v : Value} {r : R} {d : D} (hU : UB U h₀) (x : RX prog w h₀ h U v r) (e : r.toD? = some d) : Rep prog w h U v d := by
  obtain ⟨fnn, rs, f, _⟩ := x
  exact rs.look e (fun a o u _ _ q => u (.inl q)) fun a ha u => by obtain ⟨o, q⟩ := hU a u; rw [f a ha] at q; cases q

theorem call_user {env : Env} {s : Shared} {U : Addr → Prop} {σ : Sto} {vs : List Str} {f : String} {xs : List Expr} {p1 p : Pos} {ds : List D} {r : R} {E : Value → Shared → Prop} (O : WOK W fn) (rm : Room A n) (c : Cx prog w W env vs U σ s.heap) (g : gl env.scope f)
    (hok : FunOK prog w W fn n f ds r) (hne : xs ≠ []) (hst : ∀ y ∈ xs, ∀ rest env, starEach (y :: rest) env = (false, eval y env) :: starEach rest env)
    (hargs : wpAny (model prog w) A (spliced (backTo p (starEach xs env))) (VsPost prog w s U ds) E s) :
    wpAny (model prog w) A (eval (.Call (.Name (Str.ofString f) p1) xs [] p) env) (fun v s' => St s s' ∧ Ext s.heap s'.heap ∧ RX prog w s.heap s'.heap U v r) E s := by
  obtain ⟨a, hfa, hcall⟩ := hok
  show wpAny _ _ (do callWith p (← eval (.Name (Str.ofString f) p1) env) [] (backTo p (starEach xs env)) (backToKw p (keywordEach [] env))) _ _ s
  refine wpAny_bind (load_fn O c.eo c.wl g hfa ?_)
  obtain ⟨o, fd, ho, hd⟩ := O.fns c.wl hfa
  refine Calls.callWith_function (o := o) (fd := fd) ?_
  have key : wpAny (model prog w) A (spliced (backTo p (starEach xs env))) (fun vs s₁ => (s₁.heap.get? a = some o ∧ o.data = .func fd) ∧ wpAny (model prog w) A (call (.ref a) ([] ++ vs)) (fun v s' => St s s' ∧ Ext s.heap s'.heap ∧ RX prog w s.heap s'.heap U v r) E s₁) E s := by
    refine wpAny_mono hargs (fun vals s₁ h₁ => ?_) fun _ _ e => e
    obtain ⟨st, e, rp⟩ := h₁
    refine ⟨⟨e _ _ ho, hd⟩, wpAny_mono (hcall A s₁ U vals E rm (O.ext c.wl e) (c.ub.ext e) rp) (fun v s' h' => ?_) fun _ _ e => e⟩
    obtain ⟨st', e', fnn, rs, fr, nd⟩ := h'
    exact ⟨st.trans st', fun b o q => e' b o (e b o q), fnn, rs, fun a ha => fresh_none e (fr a ha), nd⟩
  cases xs with
  | nil => exact absurd rfl hne
  | cons y ys =>
    rw [hst y (.head _) ys env] at key ⊢
    exact Calls.evalArgs_plain key

section
variable (prog : Program) (w : World) (W : Heap → Prop) (A : Around) (Γ : Gam)
def EvP (e : Mine.E) : Prop := ∀ {sc : Scope} {vs : List Str} {x : Expr}, ME sc vs e x → ∀ {env : Env} {s : Shared} {U : Addr → Prop} {σ : Sto} {d : D} {E : Value → Shared → Prop},
    env.scope = sc → Cx prog w W env vs U σ s.heap → ev Γ e σ = some d → wpAny (model prog w) A (eval x env) (Post prog w s U (frs e) d) E s
def EsP (es : Es) : Prop := ∀ {sc : Scope} {vs : List Str} {xs : List Expr}, MEs sc vs es xs → ∀ {env : Env} {s : Shared} {U : Addr → Prop} {σ : Sto} {ds : List D} {p : Pos} {E : Value → Shared → Prop},
    env.scope = sc → Cx prog w W env vs U σ s.heap → evs Γ es σ = some ds → wpAny (model prog w) A (spliced (backTo p (starEach xs env))) (VsPost prog w s U ds) E s
def TeP (t : T) : Prop := ∀ {sc : Scope} {vs : List Str} {x : Expr}, MT sc vs t x → ∀ {env : Env} {s : Shared} {U : Addr → Prop} {σ : Sto} {b : Bool} {E : Value → Shared → Prop},
    env.scope = sc → Cx prog w W env vs U σ s.heap → evT Γ t σ = some b → wpAny (model prog w) A (isTrue x env (eval x env)) (TPost s b) E s
def ItP (it : It) : Prop := ∀ {sc : Scope} {vs : List Str} {x : Expr}, MI sc vs it x → ∀ {env : Env} {s : Shared} {U : Addr → Prop} {σ : Sto} {xs : List D} {E : Value → Shared → Prop},
    env.scope = sc → Cx prog w W env vs U σ s.heap → evI Γ it σ = some xs → wpAny (model prog w) A (eval x env) (IPost prog w A s U xs E) E s
end
theorem bi_ref {f : Bi} {nm : String} {v : Value} (hb : biName f = some (nm, v)) : ∀ a, v ≠ .ref a := by
  rintro a rfl
  cases f <;> cases hb
theorem mo_ok {e : Mine.E} (ihe : EvP prog w W A Γ e) {sc : Scope} {vs : List Str} {x : Option Expr} (m : MO sc vs e x) {env : Env} {s : Shared} {U : Addr → Prop} {σ : Sto} {d : D} {lo : Option Int} {E : Value → Shared → Prop}
    (hsc : env.scope = sc) (c : Cx prog w W env vs U σ s.heap) (he : ev Γ e σ = some d) (hd : d = .non ∧ lo = none ∨ ∃ k : Int, d = .int k ∧ lo = some k) : wpAny (model prog w) A (evalPart x env) (fun v s' => St s s' ∧ Ext s.heap s'.heap ∧ IsPart v lo) E s := by
  cases m with
  | none h0 =>
    subst h0
    cases he
    rw [evalPart_none]
    rcases hd with ⟨_, rfl⟩ | ⟨k, h, _⟩
    · exact wpAny_pure ⟨.refl s, fun _ _ q => q, .none⟩
    · cases h
  | some me =>
    rw [evalPart_some]
    refine wpAny_mono (ihe me hsc c he) (fun v s' p => ⟨p.st, p.ext, ?_⟩) fun _ _ e => e
    rcases hd with ⟨rfl, rfl⟩ | ⟨k, rfl, rfl⟩
    · have r := p.rep; cases r; exact .none
    · obtain ⟨t, rfl⟩ := post_int p; exact .int k t
set_option linter.unusedVariables false in
theorem ev_non_k (O : WOK W fn) (rm : Room A n) (hΓ : ∀ f ds r, Γ f ds = some r → FunOK prog w W fn n f ds r) : EvP prog w W A Γ (.non) := by
  intro _ _ _ m env s U σ d E hsc c he
  cases m with
  | mk => cases he; exact wpAny_pure (.scalar s.toks .non fun _ q => nomatch q)
set_option linter.unusedVariables false in
theorem ev_bool_k (O : WOK W fn) (rm : Room A n) (hΓ : ∀ f ds r, Γ f ds = some r → FunOK prog w W fn n f ds r) {b : Bool} : EvP prog w W A Γ (.bool b) := by
  intro _ _ _ m env s U σ d E hsc c he
  cases m with
  | mk => cases he; exact wpAny_pure (.scalar s.toks (.bool b) fun _ q => nomatch q)
set_option linter.unusedVariables false in
theorem ev_int_k (O : WOK W fn) (rm : Room A n) (hΓ : ∀ f ds r, Γ f ds = some r → FunOK prog w W fn n f ds r) {i : Int} : EvP prog w W A Γ (.int i) := by
  intro _ _ _ m env s U σ d E hsc c he
  cases m with
  | mk => cases he; exact wpAny_Constant_int (.scalar _ (.int i _) fun _ q => nomatch q)
set_option linter.unusedVariables false in
theorem ev_str_k (O : WOK W fn) (rm : Room A n) (hΓ : ∀ f ds r, Γ f ds = some r → FunOK prog w W fn n f ds r) {x : Str} : EvP prog w W A Γ (.str x) := by
  intro _ _ _ m env s U σ d E hsc c he
  cases m with
  | mk => cases he; exact Calls.Constant_str (.scalar _ (.str x _) fun _ q => nomatch q)
set_option linter.unusedVariables false in
theorem ev_var_k (O : WOK W fn) (rm : Room A n) (hΓ : ∀ f ds r, Γ f ds = some r → FunOK prog w W fn n f ds r) {i : Nat} : EvP prog w W A Γ (.var i) := by
  intro _ _ _ m env s U σ d E hsc c he
  cases m with
  | @mk x p hx hk hd =>
    subst hsc
    obtain ⟨v, fp, l, rs⟩ := c.rd i x _ hx hk (rdV_some he)
    cases rs with
    | val a => exact wpAny_Name (l.wp c.eo.kf ⟨.refl s, fun _ _ q => q, a, fun q => by cases q⟩) hd
set_option linter.unusedVariables false in
theorem ev_bin_k (O : WOK W fn) (rm : Room A n) (hΓ : ∀ f ds r, Γ f ds = some r → FunOK prog w W fn n f ds r) {op : Bop} {a : Mine.E} {b : Mine.E} (iha : EvP prog w W A Γ a) (ihb : EvP prog w W A Γ b) : EvP prog w W A Γ (.bin op a b) := by
  intro _ _ _ m env s U σ d E hsc c he
  cases m with
  | mk hm ma mb =>
    obtain ⟨x, hx, he⟩ := bind_some he
    obtain ⟨y, hy, he⟩ := bind_some he
    refine wpAny_BinOp (wpAny_mono (brw_ok ma hsc c hx fun q => iha ma hsc c q) (fun va s₁ h₁ => ?_) fun _ _ e => e)
    obtain ⟨st₁, e₁, r₁⟩ := h₁
    refine wpAny_mono (brw_ok mb hsc (c.ext O e₁) hy fun q => ihb mb hsc (c.ext O e₁) q) (fun vb s₂ h₂ => ?_) fun _ _ e => e
    obtain ⟨st₂, e₂, r₂⟩ := h₂
    refine wpAny_mono (bin2_ok (f := frs (.bin op a b)) hm ((c.ub.ext e₁).ext e₂) (r₁.ext e₂) r₂ he) (fun v s' p => ?_) fun _ _ e => e
    exact p.after (st₁.trans st₂) fun b o q => e₂ b o (e₁ b o q)
set_option linter.unusedVariables false in
theorem ev_neg_k (O : WOK W fn) (rm : Room A n) (hΓ : ∀ f ds r, Γ f ds = some r → FunOK prog w W fn n f ds r) {a : Mine.E} (iha : EvP prog w W A Γ a) : EvP prog w W A Γ (.neg a) := by
  intro _ _ _ m env s U σ d E hsc c he
  cases m with
  | @mk l p ma =>
    obtain ⟨x, hx, he⟩ := bind_some he
    show wpAny _ _ (do let v ← eval l env; standAt p; holding [v] (unaryOp .USub v)) _ _ s
    refine wpAny_bind (wpAny_mono (iha ma hsc c hx) (fun v s₁ p₁ => wpAny_bind (wpAny_standAt (wpAny_holding ?_))) fun _ _ e => e)
    cases x with
    | int i =>
      cases he
      obtain ⟨t, rfl⟩ := post_int p₁
      exact neg_int ((Post.scalar _ (.int _ _) fun _ q => nomatch q).after p₁.st p₁.ext)
    | _ => cases he
set_option linter.unusedVariables false in
theorem ev_cmp_k (O : WOK W fn) (rm : Room A n) (hΓ : ∀ f ds r, Γ f ds = some r → FunOK prog w W fn n f ds r) {op : Cop} {a : Mine.E} {b : Mine.E} (iha : EvP prog w W A Γ a) (ihb : EvP prog w W A Γ b) : EvP prog w W A Γ (.cmp op a b) := by
  intro _ _ _ m env s U σ d E hsc c he
  cases m with
  | mk hm ma mb hb =>
    obtain ⟨x, hx, he⟩ := bind_some he
    obtain ⟨y, hy, he⟩ := bind_some he
    obtain ⟨k, hk, rfl⟩ := Option.map_eq_some_iff.mp he
    refine wpAny_Compare1 (wpAny_mono (brw_ok ma hsc c hx fun q => iha ma hsc c q) (fun va s₁ h₁ => ?_) fun _ _ e => e) hb
    obtain ⟨st₁, e₁, r₁⟩ := h₁
    refine wpAny_mono (brw_ok mb hsc (c.ext O e₁) hy fun q => ihb mb hsc (c.ext O e₁) q) (fun vb s₂ h₂ => ?_) fun _ _ e => e
    obtain ⟨st₂, e₂, r₂⟩ := h₂
    exact cmp2_ok hm rm.u64 (r₁.ext e₂) r₂ hk ⟨st₁.trans st₂, fun b o q => e₂ b o (e₁ b o q), .bool k, fun q => by cases q⟩
set_option linter.unusedVariables false in
theorem ev_ite_k (O : WOK W fn) (rm : Room A n) (hΓ : ∀ f ds r, Γ f ds = some r → FunOK prog w W fn n f ds r) {t : T} {a : Mine.E} {b : Mine.E} (iht : TeP prog w W A Γ t) (iha : EvP prog w W A Γ a) (ihb : EvP prog w W A Γ b) : EvP prog w W A Γ (.ite t a b) := by
  intro _ _ _ m env s U σ d E hsc c he
  cases m with
  | @mk x l r p mt ma mb =>
    obtain ⟨k, hk, he⟩ := bind_some he
    show wpAny _ _ (do if ← isTrue x env (eval x env) then eval l env else eval r env) _ _ s
    refine wpAny_bind (wpAny_mono (iht mt hsc c hk) (fun b' s₁ h₁ => ?_) fun _ _ e => e)
    obtain ⟨st₁, e₁, rfl⟩ := h₁
    cases b' with
    | true =>
      rw [if_pos rfl] at he ⊢
      refine wpAny_mono (iha ma hsc (c.ext O e₁) he) (fun v s' p => ?_) fun _ _ e => e
      exact ⟨st₁.trans p.st, fun b o q => p.ext b o (e₁ b o q), p.rep, fun q => by cases q⟩
    | false =>
      rw [if_neg (by simp)] at he ⊢
      refine wpAny_mono (ihb mb hsc (c.ext O e₁) he) (fun v s' p => ?_) fun _ _ e => e
      exact ⟨st₁.trans p.st, fun b o q => p.ext b o (e₁ b o q), p.rep, fun q => by cases q⟩
set_option linter.unusedVariables false in
theorem ev_call_k (O : WOK W fn) (rm : Room A n) (hΓ : ∀ f ds r, Γ f ds = some r → FunOK prog w W fn n f ds r) {f : String} {es : Es} (ihes : EsP prog w W A Γ es) : EvP prog w W A Γ (.call f es) := by
  intro _ _ _ m env s U σ d E hsc c he
  cases m with
  | mk hg ms hne =>
    obtain ⟨ds, hds, he⟩ := bind_some he
    obtain ⟨r, hr, he⟩ := bind_some he
    subst hsc
    refine wpAny_mono (call_user O rm c hg (hΓ f ds r hr) hne (mes_star ms) (ihes ms rfl c hds)) (fun v s' h' => ?_) fun _ _ e => e
    exact ⟨h'.1, h'.2.1, h'.2.2.toD c.ub he, fun q => by cases q⟩
set_option linter.unusedVariables false in
theorem ev_bi_k (O : WOK W fn) (rm : Room A n) (hΓ : ∀ f ds r, Γ f ds = some r → FunOK prog w W fn n f ds r) {f : Bi} {a : Mine.E} (iha : EvP prog w W A Γ a) : EvP prog w W A Γ (.bi f a) := by
  intro _ _ _ m env s U σ d E hsc c he
  cases m with
  | @bi y nm v p1 p hb hg ma =>
    obtain ⟨x, hx, he⟩ := bind_some he
    subst hsc
    refine call1 (f := v) (bi_ref hb) (me_star ma [] env) (fun Q' q => load_bi O c.eo c.wl hg (biv_biName hb) q) ?_
    refine wpAny_mono (brw_ok ma rfl c hx fun q => iha ma rfl c q) (fun va s₁ h₁ => ?_) fun _ _ e => e
    obtain ⟨st₁, e₁, r₁⟩ := h₁
    have c₁ := c.ext O e₁
    have fin : ∀ {v' s'}, Post prog w s₁ U (frs (.bi f a)) d v' s' → Post prog w s U (frs (.bi f a)) d v' s' := fun p => p.after st₁ e₁
    cases f with
    | items => cases hb
    | str =>
      cases hb
      obtain ⟨i, rfl, q, rfl⟩ := biStr_some he
      obtain ⟨t, rfl⟩ := r₁.int
      exact wpAny_mono (str_ok q) (fun _ _ p => fin p) fun _ _ e => e
    | len =>
      cases hb
      obtain ⟨xs, rfl, he⟩ := onL_some he
      obtain ⟨q, rfl⟩ := if_some he
      exact wpAny_mono (len_ok r₁ q) (fun _ _ p => fin p) fun _ _ e => e
    | list =>
      cases hb
      obtain ⟨xs, rfl, he⟩ := onL_some he
      obtain ⟨q, rfl⟩ := mk_some he
      exact wpAny_mono (list_ok c₁.ub r₁ q) (fun _ _ p => fin p) fun _ _ e => e
    | sum =>
      cases hb
      obtain ⟨xs, rfl, he⟩ := onL_some he
      obtain ⟨ns, h1, rfl⟩ := Option.map_eq_some_iff.mp he
      exact wpAny_mono (sum_ok rm.hd r₁ h1) (fun _ _ p => fin p) fun _ _ e => e
    | sorted =>
      cases hb
      obtain ⟨xs, rfl, he⟩ := onL_some he
      obtain ⟨ns, h1, he⟩ := bind_some he
      obtain ⟨q, rfl⟩ := if_some he
      exact wpAny_mono (sorted_ok c₁.ub r₁ h1 q) (fun _ _ p => fin p) fun _ _ e => e
    | dict =>
      cases hb
      obtain ⟨xs, rfl, he⟩ := onL_some he
      obtain ⟨kvs, h1, he⟩ := bind_some he
      obtain ⟨q, rfl⟩ := if_some he
      have q := Bool.and_eq_true_iff.mp q
      exact wpAny_mono (dict_ok rm.hd c₁.ub (O.big c₁.wl) r₁ h1 (of_decide_eq_true q.1) (of_decide_eq_true q.2)) (fun _ _ p => fin p) fun _ _ e => e
  | @items x' p0 ap p1 p3 p hf hg hl mv =>
    subst hf
    obtain ⟨x, hx, he⟩ := bind_some he
    subst hsc
    refine call1 (f := .type "list") (by intro a; simp) rfl (fun Q' q => load_bi O c.eo c.wl hg rfl q) ?_
    refine wpAny_Call_method (T := "dict") (id := "dict.items") rfl rfl hl F.plainAttrs_dict F.slot_dict_items (by rfl) ?_
    refine wpAny_mono (brw_ok mv rfl c hx fun q => iha mv rfl c q) (fun va s₁ h₁ => ?_) fun _ _ e => e
    obtain ⟨st₁, e₁, r₁⟩ := h₁
    obtain ⟨ks, ds, rfl, q, rfl⟩ := biItems_some he
    have r₁ : Rep prog w s₁.heap U va (.dic ks ds) := r₁
    cases r₁ with
    | @dic d' kvs _ _ _ u lo g k1 k2 r =>
      refine ⟨g.typeIs, g.mapOf.noDict, ?_⟩
      refine Calls.callWith_builtin rfl (PySem.evalArgs_none ?_)
      refine wpAny_mono (items_ok (f := frs (.bi .items a)) rm.hd (c.ub.ext e₁) (.dic u lo g k1 k2 r) q.1 q.2) (fun v s₂ h₂ => ?_) fun _ _ e => e
      exact wpAny_mono (h₂.2 _) (fun _ _ p => p.after st₁ e₁) fun _ _ e => e
set_option linter.unusedVariables false in
theorem ev_idx_k (O : WOK W fn) (rm : Room A n) (hΓ : ∀ f ds r, Γ f ds = some r → FunOK prog w W fn n f ds r) {a : Mine.E} {i : Mine.E} (iha : EvP prog w W A Γ a) (ihi : EvP prog w W A Γ i) : EvP prog w W A Γ (.idx a i) := by
  intro _ _ _ m env s U σ d E hsc c he
  cases m with
  | @mk x y p ma mi =>
    subst hsc
    have he : (match comp? σ a i with | some d => some d | none => (brw a σ (ev Γ a σ)).bind fun x => (ev Γ i σ).bind fun y => idx2 x y) = some d := he
    cases hc : comp? σ a i with
    | some d' =>
      rw [hc] at he
      cases he
      obtain ⟨j, k, cs, rfl, rfl, hr, h0, h1, hck⟩ := comp_val hc
      cases ma with
      | @mk x p' hx hk hd =>
        cases mi with
        | mk =>
          obtain ⟨v, fp, l, rs⟩ := c.rd j x _ hx hk hr
          cases rs with
          | @tup t ws n' _ _ u g cc =>
            refine Subscript_ (wpAny_Name (l.wp c.eo.kf ?_) hd)
            refine wpAny_Constant_int ?_
            obtain ⟨v', hv', rv⟩ := cc.val_at hck
            have hl : IsTup s.heap t ws.toArray := ⟨_, g, rfl, n', rfl⟩
            have hlt := (List.getElem?_eq_some_iff.mp hv').1
            have l4 : (lid : Int) = 4096 := rfl
            refine tail_any (s := { s with toks := s.toks + 1 }) hl.typeIs slot_tuple_getitem.lookup (getItem_tuple hl (by lia) (by lia) (j := k.toNat) (by rw [List.size_toArray]; exact seqIndex_of h0 (by lia)) (by simpa using hv') ?_) rfl
            exact ⟨⟨_, _, rfl⟩, fun _ _ q => q, rv, fun q => by cases q⟩
    | none =>
      rw [hc] at he
      obtain ⟨x', hx, he⟩ := bind_some he
      obtain ⟨y', hy, he⟩ := bind_some he
      refine Subscript_ (wpAny_mono (brw_ok ma rfl c hx fun q => iha ma rfl c q) (fun va s₁ h₁ => ?_) fun _ _ e => e)
      obtain ⟨st₁, e₁, r₁⟩ := h₁
      refine wpAny_mono (ihi mi rfl (c.ext O e₁) hy) (fun vb s₂ p₂ => ?_) fun _ _ e => e
      refine wpAny_mono (idx2_ok (me_sub mi) (r₁.ext p₂.ext) p₂.rep.b he) (fun v s' h' => ?_) fun _ _ e => e
      obtain ⟨⟨tk, rfl⟩, rv⟩ := h'
      exact ⟨st₁.trans (p₂.st.trans ⟨_, tk, rfl⟩), fun b o q => p₂.ext b o (e₁ b o q), rv, fun q => by cases q⟩
set_option linter.unusedVariables false in
theorem ev_slc_k (O : WOK W fn) (rm : Room A n) (hΓ : ∀ f ds r, Γ f ds = some r → FunOK prog w W fn n f ds r) {a : Mine.E} {lo : Mine.E} {hi : Mine.E} (iha : EvP prog w W A Γ a) (ihlo : EvP prog w W A Γ lo) (ihhi : EvP prog w W A Γ hi) : EvP prog w W A Γ (.slc a lo hi) := by
  intro _ _ _ m env s U σ d E hsc c he
  cases m with
  | @mk x y z p1 p ma mlo mhi =>
    subst hsc
    obtain ⟨x', hx, he⟩ := bind_some he
    obtain ⟨y', hy, he⟩ := bind_some he
    obtain ⟨z', hz, he⟩ := bind_some he
    obtain ⟨xs, lo', hi', ys, rfl, rfl, hlen, hlo, hhi, hsl⟩ := slc3_ok (prog := prog) (w := w) he
    refine Subscript_ (wpAny_mono (brw_ok ma rfl c hx fun q => iha ma rfl c q) (fun va s₁ h₁ => ?_) fun _ _ e => e)
    obtain ⟨st₁, e₁, r₁⟩ := h₁
    refine wpAny_Slice (wpAny_mono (mo_ok ihlo mlo rfl (c.ext O e₁) hy hlo) (fun vl s₂ h₂ => ?_) fun _ _ e => e)
    obtain ⟨st₂, e₂, pl⟩ := h₂
    refine wpAny_mono (mo_ok ihhi mhi rfl ((c.ext O e₁).ext O e₂) hz hhi) (fun vu s₃ h₃ => ?_) fun _ _ e => e
    obtain ⟨st₃, e₃, pu⟩ := h₃
    rw [evalPart_none]
    refine wpAny_pure ?_
    have e4 : Ext s₃.heap (s₃.heap.push { cls := .type "slice", data := .fields #[vl, vu, .none] }) := fun b o q => Heap.get?_push_of_some _ q
    have es : Ext s.heap (s₃.heap.push { cls := .type "slice", data := .fields #[vl, vu, .none] }) := fun b o q => e4 b o (e₃ b o (e₂ b o (e₁ b o q)))
    refine wpAny_mono (slc_ok (f := frs (.slc a lo hi)) (s := { s₃ with heap := s₃.heap.push { cls := .type "slice", data := .fields #[vl, vu, .none] } }) (c.ub.ext es) (((r₁.ext e₂).ext e₃).ext e4) hlen (Heap.IsSliceOf.new ..) pl pu (fun r => hsl r)) (fun v s' p => ?_) fun _ _ e => e
    exact p.after (st₁.trans (st₂.trans (st₃.trans ⟨_, s₃.toks, rfl⟩))) es
set_option linter.unusedVariables false in
theorem ev_lst_k (O : WOK W fn) (rm : Room A n) (hΓ : ∀ f ds r, Γ f ds = some r → FunOK prog w W fn n f ds r) {es : Es} (ihes : EsP prog w W A Γ es) : EvP prog w W A Γ (.lst es) := by
  intro _ _ _ m env s U σ d E hsc c he
  cases m with
  | @mk xs p ms =>
    obtain ⟨ds, hds, he⟩ := bind_some he
    obtain ⟨q, rfl⟩ := mk_some he
    · subst hsc
      refine List_ (wpAny_mono (ihes ms rfl c hds) (fun vals s₁ h₁ => ?_) fun _ _ e => e)
      obtain ⟨st₁, e₁, r₁⟩ := h₁
      refine wpAny_newObj_type ?_ (by show vals.toArray.size ≤ sizeLine; rw [List.size_toArray, r₁.length]; exact Nat.le_trans q lid_le)
      exact (Post.push s₁.toks (c.ub.ext e₁) r₁).after st₁ e₁
set_option linter.unusedVariables false in
theorem ev_tup_k (O : WOK W fn) (rm : Room A n) (hΓ : ∀ f ds r, Γ f ds = some r → FunOK prog w W fn n f ds r) {es : Es} (ihes : EsP prog w W A Γ es) : EvP prog w W A Γ (.tup es) := by
  intro _ _ _ m env s U σ d E hsc c he
  cases m with
  | @mk xs k p ms =>
    obtain ⟨ds, hds, he⟩ := bind_some he
    obtain ⟨q, rfl⟩ := if_some he
    · subst hsc
      refine Tuple_ (wpAny_mono (ihes ms rfl c hds) (fun vals s₁ h₁ => ?_) fun _ _ e => e)
      obtain ⟨st₁, e₁, r₁⟩ := h₁
      have e2 : Ext s₁.heap (s₁.heap.push (tupObj vals 0)) := fun b o q => Heap.get?_push_of_some _ q
      refine wpAny_newObj_type ?_ (by show vals.toArray.size ≤ sizeLine; rw [List.size_toArray, r₁.length]; exact Nat.le_trans q lid_le)
      refine ⟨st₁.trans ⟨_, s₁.toks, rfl⟩, fun b o q => e2 b o (e₁ b o q), .tup (n := 0) (fun u => ?_) (Heap.get?_push_size _ rfl) (r₁.ext e2), fun q => by cases q⟩
      obtain ⟨o, q⟩ := (c.ub.ext e₁) _ u
      exact Nat.lt_irrefl _ (Heap.lt_size q)
set_option linter.unusedVariables false in
theorem ev_dic0_k (O : WOK W fn) (rm : Room A n) (hΓ : ∀ f ds r, Γ f ds = some r → FunOK prog w W fn n f ds r) : EvP prog w W A Γ (.dic0) := by
  intro _ _ _ m env s U σ d E hsc c he
  cases m with
  | @mk p =>
    cases he
    show wpAny _ _ (do standAt p; dictDisplay (([] : List (Option (Sem Value))).zip (([] : List (Sem Value)).map fun v => do let x ← v; standAt p; pure x))) _ _ s
    exact wpAny_bind (wpAny_standAt (dic0_ok c.ub (O.big c.wl)))
set_option linter.unusedVariables false in
theorem ev_comp_k (O : WOK W fn) (rm : Room A n) (hΓ : ∀ f ds r, Γ f ds = some r → FunOK prog w W fn n f ds r) {e : Mine.E} {it : It} (ihe : EvP prog w W A Γ e) (ihit : ItP prog w W A Γ it) : EvP prog w W A Γ (.comp e it) := by
  intro _ _ _ m env s U σ d E hsc c he
  cases m with
  | @mk elt iter cx px scope pos mi me ok =>
    subst hsc
    obtain ⟨xs, hxs, he⟩ := bind_some he
    obtain ⟨ys, hys, he⟩ := bind_some he
    obtain ⟨q, rfl⟩ := mk_some he
    · show wpAny _ _ (comprehension (.ListComp elt [⟨.Name cx px, iter, [], 0⟩] scope pos) scope env _ (newList []) false (eval iter env) none) _ _ s
      refine comp_core O c.eo c.wl c.ub ok c.rd c.len (ihit mi rfl c hxs) hys q ?_ ?_
      · intro cenv s₃ U' d y E' h1 h2 h3 h4 h5 h6
        exact wpAny_mono (ihe me h1 ⟨h2, h3, h4, h5, by simp [c.len]⟩ h6) (fun _ _ p => ⟨p.st, p.ext, p.rep⟩) fun _ _ e => e
      · intro D C s₅ m hCn hDC st₅ e₅ hn₅ rx
        refine ⟨m, hn₅, fun h' hs' => ?_⟩
        have eh : Ext s.heap h' := fun b o q => hs'.extBut b o (fun e => by rw [e, hCn] at q; cases q) (e₅ b o q)
        have rx' : RX prog w s.heap h' U (.ref D) (.own ys) := by
          obtain ⟨fnn, rs, fr, nd⟩ := rx
          refine ⟨fnn, rs.move (fun a o u q _ => (hs'.2 a fun e => u (.inl (.inr e))).trans q) (fun a o u _ _ y => u (y.imp .inl id)) fun a ha o q => ?_, fr, nd⟩
          cases rs with
          | own g r =>
            rw [List.mem_singleton.mp ha] at q ⊢
            exact (hs'.2 _ hDC).trans q
        exact ⟨st₅.trans ⟨h', s₅.toks, rfl⟩, eh, rx'.rep c.ub, fun _ zs q => by cases q; exact rx'⟩
set_option linter.unusedVariables false in
theorem evs_nil_k (O : WOK W fn) (rm : Room A n) (hΓ : ∀ f ds r, Γ f ds = some r → FunOK prog w W fn n f ds r) : EsP prog w W A Γ (.nil) := by
  intro _ _ _ m env s U σ ds p E hsc c he
  cases m
  cases he
  exact Calls.spliced_nil ⟨.refl s, fun _ _ q => q, .nil⟩
set_option linter.unusedVariables false in
theorem evs_cons_k (O : WOK W fn) (rm : Room A n) (hΓ : ∀ f ds r, Γ f ds = some r → FunOK prog w W fn n f ds r) {e : Mine.E} {es : Es} (ihe : EvP prog w W A Γ e) (ihes : EsP prog w W A Γ es) : EsP prog w W A Γ (.cons e es) := by
  intro _ _ _ m env s U σ ds p E hsc c he
  cases m with
  | @mk x xs me ms =>
    obtain ⟨d, hd, he⟩ := bind_some he
    obtain ⟨ds', hds, rfl⟩ := Option.map_eq_some_iff.mp he
    rw [me_star me xs env]
    refine Calls.spliced_cons (wpAny_mono (ihe me hsc c hd) (fun v s₁ p₁ => ?_) fun _ _ e => e)
    refine wpAny_mono (ihes ms hsc (c.ext O p₁.ext) hds) (fun vals s₂ h₂ => ?_) fun _ _ e => e
    obtain ⟨st₂, e₂, r₂⟩ := h₂
    exact ⟨p₁.st.trans st₂, fun b o q => e₂ b o (p₁.ext b o q), .cons (p₁.rep.ext e₂) r₂⟩
set_option linter.unusedVariables false in
theorem evT_cmp_k (O : WOK W fn) (rm : Room A n) (hΓ : ∀ f ds r, Γ f ds = some r → FunOK prog w W fn n f ds r) {op : Cop} {a : Mine.E} {b : Mine.E} (iha : EvP prog w W A Γ a) (ihb : EvP prog w W A Γ b) : TeP prog w W A Γ (.cmp op a b) := by
  intro _ _ _ m env s U σ k E hsc c he
  cases m with
  | mk hm ma mb hb =>
    obtain ⟨x, hx, he⟩ := bind_some he
    obtain ⟨y, hy, hk⟩ := bind_some he
    refine wpAny_isTrue_Compare1 (wpAny_mono (brw_ok ma hsc c hx fun q => iha ma hsc c q) (fun va s₁ h₁ => ?_) fun _ _ e => e) hb
    obtain ⟨st₁, e₁, r₁⟩ := h₁
    refine wpAny_mono (brw_ok mb hsc (c.ext O e₁) hy fun q => ihb mb hsc (c.ext O e₁) q) (fun vb s₂ h₂ => ?_) fun _ _ e => e
    obtain ⟨st₂, e₂, r₂⟩ := h₂
    exact cmp2_ok hm rm.u64 (r₁.ext e₂) r₂ hk (wpAny_truthy_bool ⟨st₁.trans st₂, fun b o q => e₂ b o (e₁ b o q), rfl⟩)
set_option linter.unusedVariables false in
theorem evT_not_k (O : WOK W fn) (rm : Room A n) (hΓ : ∀ f ds r, Γ f ds = some r → FunOK prog w W fn n f ds r) {t : T} (iht : TeP prog w W A Γ t) : TeP prog w W A Γ (.not t) := by
  intro _ _ _ m env s U σ k E hsc c he
  cases m with
  | @mk x p mt =>
    obtain ⟨k', hk, rfl⟩ := Option.map_eq_some_iff.mp he
    show wpAny _ _ (do return !(← isTrue x env (eval x env))) _ _ s
    refine wpAny_bind (wpAny_mono (iht mt hsc c hk) (fun b s₁ h₁ => ?_) fun _ _ e => e)
    obtain ⟨st₁, e₁, rfl⟩ := h₁
    exact wpAny_pure ⟨st₁, e₁, rfl⟩
set_option linter.unusedVariables false in
theorem evT_and_k (O : WOK W fn) (rm : Room A n) (hΓ : ∀ f ds r, Γ f ds = some r → FunOK prog w W fn n f ds r) {a : T} {b : T} (iha : TeP prog w W A Γ a) (ihb : TeP prog w W A Γ b) : TeP prog w W A Γ (.and a b) := by
  intro _ _ _ m env s U σ k E hsc c he
  cases m with
  | @mk x y p ma mb =>
    obtain ⟨k1, hk, he⟩ := bind_some he
    show wpAny _ _ (do
      match BoolOp.And, ← isTrue x env (eval x env) with
      | .And, false => pure false
      | .Or, true => pure true
      | _, _ => allTrue .And [y] env) _ _ s
    refine wpAny_bind (wpAny_mono (iha ma hsc c hk) (fun b' s₁ h₁ => ?_) fun _ _ e => e)
    obtain ⟨st₁, e₁, rfl⟩ := h₁
    cases b' with
    | false =>
      rw [if_neg (by simp)] at he
      cases he
      exact wpAny_pure ⟨st₁, e₁, rfl⟩
    | true =>
      rw [if_pos rfl] at he
      show wpAny _ _ (do
        match BoolOp.And, ← isTrue y env (eval y env) with
        | .And, false => pure false
        | .Or, true => pure true
        | _, _ => allTrue .And [] env) _ _ s₁
      refine wpAny_bind (wpAny_mono (ihb mb hsc (c.ext O e₁) he) (fun b' s₂ h₂ => ?_) fun _ _ e => e)
      obtain ⟨st₂, e₂, rfl⟩ := h₂
      cases b' with
      | false => exact wpAny_pure ⟨st₁.trans st₂, fun b o q => e₂ b o (e₁ b o q), rfl⟩
      | true => exact wpAny_pure ⟨st₁.trans st₂, fun b o q => e₂ b o (e₁ b o q), rfl⟩
set_option linter.unusedVariables false in
theorem evT_or_k (O : WOK W fn) (rm : Room A n) (hΓ : ∀ f ds r, Γ f ds = some r → FunOK prog w W fn n f ds r) {a : T} {b : T} (iha : TeP prog w W A Γ a) (ihb : TeP prog w W A Γ b) : TeP prog w W A Γ (.or a b) := by
  intro _ _ _ m env s U σ k E hsc c he
  cases m with
  | @mk x y p ma mb =>
    obtain ⟨k1, hk, he⟩ := bind_some he
    show wpAny _ _ (do
      match BoolOp.Or, ← isTrue x env (eval x env) with
      | .And, false => pure false
      | .Or, true => pure true
      | _, _ => allTrue .Or [y] env) _ _ s
    refine wpAny_bind (wpAny_mono (iha ma hsc c hk) (fun b' s₁ h₁ => ?_) fun _ _ e => e)
    obtain ⟨st₁, e₁, rfl⟩ := h₁
    cases b' with
    | true =>
      rw [if_pos rfl] at he
      cases he
      exact wpAny_pure ⟨st₁, e₁, rfl⟩
    | false =>
      rw [if_neg (by simp)] at he
      show wpAny _ _ (do
        match BoolOp.Or, ← isTrue y env (eval y env) with
        | .And, false => pure false
        | .Or, true => pure true
        | _, _ => allTrue .Or [] env) _ _ s₁
      refine wpAny_bind (wpAny_mono (ihb mb hsc (c.ext O e₁) he) (fun b' s₂ h₂ => ?_) fun _ _ e => e)
      obtain ⟨st₂, e₂, rfl⟩ := h₂
      cases b' with
      | false => exact wpAny_pure ⟨st₁.trans st₂, fun b o q => e₂ b o (e₁ b o q), rfl⟩
      | true => exact wpAny_pure ⟨st₁.trans st₂, fun b o q => e₂ b o (e₁ b o q), rfl⟩
set_option linter.unusedVariables false in
theorem evT_ex_k (O : WOK W fn) (rm : Room A n) (hΓ : ∀ f ds r, Γ f ds = some r → FunOK prog w W fn n f ds r) {e : Mine.E} (ihe : EvP prog w W A Γ e) : TeP prog w W A Γ (.ex e) := by
  intro _ _ _ m env s U σ k E hsc c he
  cases m with
  | mk me hx =>
    obtain ⟨d, hd, he⟩ := bind_some he
    rw [hx]
    refine wpAny_bind (wpAny_mono (ihe me hsc c hd) (fun v s₁ p₁ => wpAny_bind (wpAny_standAt (wpAny_holding ?_))) fun _ _ e => e)
    cases d with
    | bool b =>
      cases he
      have r := p₁.rep
      cases r
      exact wpAny_truthy_bool ⟨p₁.st, p₁.ext, rfl⟩
    | _ => cases he
set_option linter.unusedVariables false in
theorem evI_range_k (O : WOK W fn) (rm : Room A n) (hΓ : ∀ f ds r, Γ f ds = some r → FunOK prog w W fn n f ds r) {e : Mine.E} (ihe : EvP prog w W A Γ e) : ItP prog w W A Γ (.range e) := by
  intro _ _ _ m env s U σ xs E hsc c he
  cases m with
  | mk hg me =>
    subst hsc
    obtain ⟨d, hd, he⟩ := bind_some he
    refine call1 (f := .type "range") (by intro a; simp) (me_star me [] env) (fun Q' q => load_bi O c.eo c.wl hg rfl q) ?_
    refine wpAny_mono (ihe me rfl c hd) (fun v s₁ p₁ => ?_) fun _ _ e => e
    cases d with
    | int k =>
      obtain ⟨t, rfl⟩ := post_int p₁
      refine wpAny_mono (iter_range (U := U) rm.hd he) (fun xv s₂ h₂ => wpAny_mono h₂ (fun itv s₃ h₃ => ?_) fun _ _ e => e) fun _ _ e => e
      obtain ⟨st₃, e₃, it₃⟩ := h₃
      exact ⟨p₁.st.trans st₃, fun b o q => e₃ b o (p₁.ext b o q), it₃.since p₁.ext⟩
    | _ => cases he
set_option linter.unusedVariables false in
theorem evI_seq_k (O : WOK W fn) (rm : Room A n) (hΓ : ∀ f ds r, Γ f ds = some r → FunOK prog w W fn n f ds r) {e : Mine.E} (ihe : EvP prog w W A Γ e) : ItP prog w W A Γ (.seq e) := by
  intro _ _ _ m env s U σ xs E hsc c he
  have me : ME _ _ e _ := m
  obtain ⟨d, hd, he⟩ := bind_some he
  refine wpAny_mono (ihe me hsc c hd) (fun v s₁ p₁ => ?_) fun _ _ e => e
  cases d with
  | lst ys =>
    obtain ⟨q, rfl⟩ := if_some he
    · refine wpAny_mono (iter_list rm.hd p₁.rep) (fun itv s₃ h₃ => ?_) fun _ _ e => e
      obtain ⟨st₃, e₃, it₃⟩ := h₃
      exact ⟨p₁.st.trans st₃, fun b o q => e₃ b o (p₁.ext b o q), it₃.since p₁.ext⟩
  | _ => cases he
mutual
theorem ev_ok (O : WOK W fn) (rm : Room A n) (hΓ : ∀ f ds r, Γ f ds = some r → FunOK prog w W fn n f ds r) : ∀ e : Mine.E, EvP prog w W A Γ e
  | .non => ev_non_k O rm hΓ
  | .bool b => ev_bool_k O rm hΓ
  | .int i => ev_int_k O rm hΓ
  | .str x => ev_str_k O rm hΓ
  | .var i => ev_var_k O rm hΓ
  | .bin op a b => ev_bin_k O rm hΓ (ev_ok O rm hΓ a) (ev_ok O rm hΓ b)
  | .neg a => ev_neg_k O rm hΓ (ev_ok O rm hΓ a)
  | .cmp op a b => ev_cmp_k O rm hΓ (ev_ok O rm hΓ a) (ev_ok O rm hΓ b)
  | .ite t a b => ev_ite_k O rm hΓ (evT_ok O rm hΓ t) (ev_ok O rm hΓ a) (ev_ok O rm hΓ b)
  | .call f es => ev_call_k O rm hΓ (evs_ok O rm hΓ es)
  | .bi f a => ev_bi_k O rm hΓ (ev_ok O rm hΓ a)
  | .idx a i => ev_idx_k O rm hΓ (ev_ok O rm hΓ a) (ev_ok O rm hΓ i)
  | .slc a lo hi => ev_slc_k O rm hΓ (ev_ok O rm hΓ a) (ev_ok O rm hΓ lo) (ev_ok O rm hΓ hi)
  | .lst es => ev_lst_k O rm hΓ (evs_ok O rm hΓ es)
  | .tup es => ev_tup_k O rm hΓ (evs_ok O rm hΓ es)
  | .dic0 => ev_dic0_k O rm hΓ
  | .comp e it => ev_comp_k O rm hΓ (ev_ok O rm hΓ e) (evI_ok O rm hΓ it)
theorem evs_ok (O : WOK W fn) (rm : Room A n) (hΓ : ∀ f ds r, Γ f ds = some r → FunOK prog w W fn n f ds r) : ∀ e : Es, EsP prog w W A Γ e
  | .nil => evs_nil_k O rm hΓ
  | .cons e es => evs_cons_k O rm hΓ (ev_ok O rm hΓ e) (evs_ok O rm hΓ es)
theorem evT_ok (O : WOK W fn) (rm : Room A n) (hΓ : ∀ f ds r, Γ f ds = some r → FunOK prog w W fn n f ds r) : ∀ e : T, TeP prog w W A Γ e
  | .cmp op a b => evT_cmp_k O rm hΓ (ev_ok O rm hΓ a) (ev_ok O rm hΓ b)
  | .not t => evT_not_k O rm hΓ (evT_ok O rm hΓ t)
  | .and a b => evT_and_k O rm hΓ (evT_ok O rm hΓ a) (evT_ok O rm hΓ b)
  | .or a b => evT_or_k O rm hΓ (evT_ok O rm hΓ a) (evT_ok O rm hΓ b)
  | .ex e => evT_ex_k O rm hΓ (ev_ok O rm hΓ e)
theorem evI_ok (O : WOK W fn) (rm : Room A n) (hΓ : ∀ f ds r, Γ f ds = some r → FunOK prog w W fn n f ds r) : ∀ e : It, ItP prog w W A Γ e
  | .range e => evI_range_k O rm hΓ (ev_ok O rm hΓ e)
  | .seq e => evI_seq_k O rm hΓ (ev_ok O rm hΓ e)
end
end
end Mine

set_option maxRecDepth 100000
namespace Mine
open PySem PySem.Spec PyProof.Rows

structure Nx (prog : Program) (w : World) (env : Env) (vs : List Str) (base : Heap) (X M : Addr → Prop) (s : Shared) (σ' : Sto) (s' : Shared) : Prop where
  st : St s s'
  inv : ∃ M' val fp, Inv prog w env vs base X M' σ' s'.heap val fp ∧ ∀ a, M' a → M a ∨ s.heap.get? a = none
  keep : ∀ b o, ¬ M b → s.heap.get? b = some o → s'.heap.get? b = some o

def OutR (prog : Program) (w : World) (env : Env) (vs : List Str) (base : Heap) (X M : Addr → Prop) (s : Shared) : O → Flow → Shared → Prop
  | .next σ', fl, s' => fl = .next ∧ Nx prog w env vs base X M s σ' s'
  | .brk σ', fl, s' => fl = .brk ∧ Nx prog w env vs base X M s σ' s'
  | .ret r, fl, s' => ∃ v, fl = .ret v ∧ St s s' ∧ Ext base s'.heap ∧ RX prog w base s'.heap X v r
  | .exc _, _, _ => False

section
variable {prog : Program} {w : World} {W : Heap → Prop} {fn : String → Option Addr} {A : Around} {n : Nat} {Γ : Gam} {env : Env} {vs : List Str} {base : Heap} {X M : Addr → Prop} {σ : Sto} {s s₁ : Shared} {val : Nat → Option Value} {fp : Nat → List Addr} {E : Value → Shared → Prop}

theorem Nx.refl (I : Inv prog w env vs base X M σ s.heap val fp) : Nx prog w env vs base X M s σ s := ⟨.refl s, ⟨M, val, fp, I, fun _ h => .inl h⟩, fun _ _ _ q => q⟩
theorem Nx.trans {M' : Addr → Prop} {σ' : Sto} {s₂ : Shared} (a : Nx prog w env vs base X M s σ s₁) (hM : ∀ b, M' b → M b ∨ s.heap.get? b = none) (b : Nx prog w env vs base X M' s₁ σ' s₂) : Nx prog w env vs base X M s σ' s₂ := by
  obtain ⟨M₂, v₂, f₂, I₂, h₂⟩ := b.inv
  refine ⟨a.st.trans b.st, ⟨M₂, v₂, f₂, I₂, fun c hc => ?_⟩, fun c o hc q => b.keep c o (fun h => (hM c h).elim hc fun h => by rw [h] at q; cases q) (a.keep c o hc q)⟩
  rcases h₂ c hc with h | h
  · exact hM c h
  · by_cases hm : M c
    · exact .inl hm
    · refine .inr ?_
      cases q : s.heap.get? c with
      | none => rfl
      | some o => rw [a.keep c o hm q] at h; cases h
theorem OutR.after {M' : Addr → Prop} {o : O} {fl : Flow} {s₂ : Shared} (a : Nx prog w env vs base X M s σ s₁) (hM : ∀ b, M' b → M b ∨ s.heap.get? b = none) (b : OutR prog w env vs base X M' s₁ o fl s₂) : OutR prog w env vs base X M s o fl s₂ := by
  cases o with
  | next σ' => exact ⟨b.1, a.trans hM b.2⟩
  | brk σ' => exact ⟨b.1, a.trans hM b.2⟩
  | ret r => obtain ⟨v, h1, h2, h3⟩ := b; exact ⟨v, h1, a.st.trans h2, h3⟩
  | exc c => exact b

theorem Inv.cx (O : WOK W fn) (F : FS env vs) (V : EO env) (hW : W base) {h : Heap} (I : Inv prog w env vs base X M σ h val fp) : Cx prog w W env vs (fun a => X a ∨ M a) σ h :=
  ⟨V, O.ext hW I.bas, fun a ha => ha.elim (fun q => (I.old a q).1) fun q => let ⟨o, g, _⟩ := I.there q; ⟨o, g⟩, I.reads F, I.len⟩

theorem lt_of_get {α : Type} {l : List α} {i : Nat} {x : α} (h : l[i]? = some x) : i < l.length := (List.getElem?_eq_some_iff.mp h).1

/-- a value is stored under a name -/
theorem st_ok (F : FS env vs) (I : Inv prog w env vs base X M σ s.heap val fp) {x : Nat} {nm : Str} {v : Value} {r : R} (hx : vs[x]? = some nm) (st : St s s₁) (e : Ext s.heap s₁.heap) (rx : RX prog w s.heap s₁.heap (fun a => X a ∨ M a) v r)
    {Q : Unit → Shared → Prop} (h : ∀ s', Nx prog w env vs base X M s (put σ x r) s' → Q () s') : wpAny (model prog w) A (storeName env nm v) Q E s₁ := by
  obtain ⟨fnn, rs, fr, nd⟩ := rx
  refine (I.frv.ext e).store F hx fun h' tk V' kp => h _ ⟨st.trans ⟨h', tk, rfl⟩, ⟨_, _, _, I.store e (lt_of_get hx) rs fr nd V' kp, ?_⟩, fun b o hb q => kp b o (fun f => hb ((I.mem b).mpr (.inl f))) (e b o q)⟩
  rintro a (f | ⟨i, q⟩)
  · exact .inl ((I.mem a).mpr (.inl f))
  · by_cases hi : i = x
    · rw [if_pos hi] at q; exact .inr (fr a q)
    · rw [if_neg hi] at q; exact .inl ((I.mem a).mpr (.inr ⟨i, q⟩))
theorem RX.ofVal {h₀ h : Heap} {U : Addr → Prop} {v : Value} {d : D} (r : Rep prog w h U v d) : RX prog w h₀ h U v (.val d) := ⟨[], .val (r.less fun a q => q.elim id fun q => (nomatch q)), fun _ h => (nomatch h), by simp⟩
/-- what was there and is none of the frame's own is there still -/
theorem Nx.rep {σ' : Sto} {s' : Shared} {M' : Addr → Prop} {v : Value} {d : D} (nx : Nx prog w env vs base X M s σ' s') (hM : ∀ a, M' a → M a ∨ s.heap.get? a = none) (r : Rep prog w s.heap (fun a => X a ∨ M a) v d) : Rep prog w s'.heap (fun a => X a ∨ M' a) v d :=
  r.move (fun a o u q _ => nx.keep a o (fun m => u (.inr m)) q) fun a o u q _ y => y.elim (fun y => u (.inl y)) fun y => (hM a y).elim (fun y => u (.inr y)) fun y => by rw [q] at y; cases y
theorem Nx.reps {σ' : Sto} {s' : Shared} {M' : Addr → Prop} {v : List Value} {d : List D} (nx : Nx prog w env vs base X M s σ' s') (hM : ∀ a, M' a → M a ∨ s.heap.get? a = none) (r : Reps prog w s.heap (fun a => X a ∨ M a) v d) : Reps prog w s'.heap (fun a => X a ∨ M' a) v d :=
  r.move (fun a o u q _ => nx.keep a o (fun m => u (.inr m)) q) fun a o u q _ y => y.elim (fun y => u (.inl y)) fun y => (hM a y).elim (fun y => u (.inr y)) fun y => by rw [q] at y; cases y

/-- several names in turn -/
theorem puts_ok (F : FS env vs) : ∀ (xs : List Nat) (nms : List (Str × Pos)) (ds : List D) (vals : List Value) {σ σ' : Sto} {M : Addr → Prop} {s : Shared} {val : Nat → Option Value} {fp : Nat → List Addr}, Inv prog w env vs base X M σ s.heap val fp →
    Reps prog w s.heap (fun a => X a ∨ M a) vals ds → xs.map (vs[·]?) = nms.map (fun p => some p.1) → puts xs ds σ = some σ' → ∀ {Q : Unit → Shared → Prop}, (∀ s', Nx prog w env vs base X M s σ' s' → Q () s') →
    wpAny (model prog w) A (assignInOrder (nms.map fun p => assign (.Name p.1 p.2) env) vals) Q E s
  | [], nms, ds, vals, σ, σ', M, s, val, fp, I, r, hn, hp, Q, h => by
    cases nms with
    | cons _ _ => simp at hn
    | nil =>
      cases ds with
      | cons _ _ => simp [puts] at hp
      | nil =>
        simp [puts] at hp
        subst hp
        cases r
        exact wpAny_pure (h _ (.refl I))
  | x :: xs, nms, ds, vals, σ, σ', M, s, val, fp, I, r, hn, hp, Q, h => by
    cases nms with
    | nil => simp at hn
    | cons nm nms =>
      cases ds with
      | nil => simp [puts] at hp
      | cons d ds =>
        simp only [puts] at hp
        simp only [List.map_cons, List.cons.injEq] at hn
        cases r with
        | @cons v vals _ _ rv rr =>
          refine assignInOrder_cons (wpAny_assign_Name (st_ok F I hn.1 (.refl s) (fun _ _ q => q) (RX.ofVal rv) fun s₂ nx => ?_))
          obtain ⟨M₂, v₂, f₂, I₂, hM₂⟩ := nx.inv
          exact puts_ok F xs nms ds vals I₂ (nx.reps hM₂ rr) hn.2 hp fun s' nx' => h s' (nx.trans hM₂ nx')

theorem Nx.since {σ' : Sto} {s' : Shared} (I : Inv prog w env vs base X M σ s.heap val fp) (st : St s s₁) (e : Ext s.heap s₁.heap) (nx : Nx prog w env vs base X M s₁ σ' s') : Nx prog w env vs base X M s σ' s' :=
  Nx.trans (σ := σ) ⟨st, ⟨M, val, fp, I.ext e, fun _ h => .inl h⟩, fun b o _ q => e b o q⟩ (fun _ h => .inl h) nx

theorem RS.ownInv {h : Heap} {U : Addr → Prop} {v : Value} {xs : List D} {l : List Addr} (x : RS prog w h U v (.own xs) l) : ∃ a ws n, v = .ref a ∧ l = [a] ∧ h.get? a = some (lstObj ws n) ∧ Reps prog w h U ws xs := by
  cases x with
  | own g r => exact ⟨_, _, _, rfl, rfl, g, r⟩
theorem setItem_raw {l : Addr} {ws : List Value} {n : Nat} {k : Int} {t : Tok} {v : Value} {Q : Unit → Shared → Prop} (hl : s.heap.get? l = some (lstObj ws n)) (h0 : 0 ≤ k) (hk : k < ws.length) (hfit : k < 2 ^ 63)
    (hQ : ∀ h', h'.get? l = some (lstObj (ws.set k.toNat v) n) → Heap.SameBut l s.heap h' → Q () { s with heap := h' }) : wpAny (model prog w) A (setItem (.ref l) (.int k t) v) Q E s := by
  have hls : s.heap.IsList l ws.toArray := ⟨_, hl, rfl, n, rfl⟩
  unfold setItem
  try with_reducible refine wpAny_holding ?_
  first | refine wpAny_bind (wpAny_pure ?_) | skip
  refine wpAny_bind (wpAny_sequenceKey hls.typeIs (by decide) ?_)
  refine wpAny_bind (wpAny_callSpecial?_slot (name := Str.ofString "__setitem__") hls.typeIs slot_list_setitem
    (wpAny_call_entry slot_list_setitem hls.typeIs entry_list_setitem ?_ (args_list_setitem _ _ _)))
  show wpAny _ _ (Builtin.List.listSubscript? (.int k t) >>= _) _ _ s
  refine wpAny_bind (wpAny_listSubscript_int (fitsIndex_of h0 hfit) ?_)
  clear hfit
  obtain ⟨j, rfl⟩ := Int.eq_ofNat_of_zero_le h0
  have hj : j < ws.length := by lia
  have hx' : ws.toArray[j]? = some (ws.toArray[j]'(by simpa using hj)) := Array.getElem?_eq_getElem (by simpa using hj)
  show wpAny _ _ ((seqItemAt l j >>= fun r => pure (r.map (j, ·))) >>= _) _ _ s
  refine wpAny_bind (wpAny_bind (wpAny_seqItemAt hl rfl (wpAny_pure ?_)))
  rw [hx']
  show wpAny _ _ (setSeqItemAt l j v >>= _) _ _ s
  have hfin : (s.heap.update l (Obj.mapSeq (·.setIfInBounds j v))).get? l = some (lstObj (ws.set (j : Int).toNat v) n) := by
    have := Heap.get?_update_self (Obj.mapSeq (·.setIfInBounds j v)) hl rfl
    rw [this]
    simp [Obj.mapSeq, lstObj]
  refine wpAny_bind (wpAny_setSeqItemAt hl rfl ?_)
  first
    | exact wpAny_bind (wpAny_pure (wpAny_pure ⟨.none, rfl, wpAny_pure (hQ _ hfin (Heap.SameBut.update ..))⟩))
    | exact wpAny_pure ⟨.none, rfl, wpAny_pure (hQ _ hfin (Heap.SameBut.update ..))⟩

/-- an owned list is turned -/
theorem turn_nx (I : Inv prog w env vs base X M σ s.heap val fp) {x : Nat} {xs ys : List D} {a : Addr} {ws : List Value} {m : Nat} {h' : Heap} (hr : rd σ x = some (.own xs)) (ha : fp x = [a]) (hn : h'.get? a = some (lstObj ws m)) (hs : Heap.SameBut a s.heap h') (rw' : Reps prog w s.heap (fun a => X a ∨ M a) ws ys) (tk : Nat) :
    Nx prog w env vs base X M s (put σ x (.own ys)) { s with heap := h', toks := tk } :=
  ⟨⟨h', tk, rfl⟩, ⟨M, val, fp, I.turn hr a ha hn (fun b o hb q => (hs.2 b hb).trans q) rw', fun _ h => .inl h⟩, fun b o hb q => (hs.2 b fun e => hb ((I.mem b).mpr (.inr ⟨x, by rw [ha, e]; exact .head _⟩))).trans q⟩
/-- an item of an owned list is stored -/
theorem set_ok (I : Inv prog w env vs base X M σ s.heap val fp) {x : Nat} {xs : List D} {v iv ov : Value} {d : D} {k : Int} (hr : rd σ x = some (.own xs)) (hv : val x = some ov) (hi : ∃ t, iv = .int k t) (h0 : 0 ≤ k) (hk : k < xs.length) (hl : xs.length ≤ lid) (rv : Rep prog w s.heap (fun a => X a ∨ M a) v d)
    {Q : Unit → Shared → Prop} (h : ∀ s', Nx prog w env vs base X M s (put σ x (.own (xs.set k.toNat d))) s' → Q () s') : wpAny (model prog w) A (setItem ov iv v) Q E s := by
  obtain ⟨t, rfl⟩ := hi
  obtain ⟨v', hv', rs⟩ := I.rep x _ hr
  rw [hv] at hv'
  cases hv'
  obtain ⟨a, ws, n, rfl, hfp, g, r⟩ := rs.ownInv
  have l4 : lid = 4096 := rfl
  have hlen := r.length
  exact setItem_raw g h0 (by lia) (by lia) fun h' hn hs => h _ (turn_nx I hr hfp hn hs (r.set rv k.toNat) s.toks)
theorem append_ok (I : Inv prog w env vs base X M σ s.heap val fp) {x : Nat} {xs : List D} {v ov : Value} {d : D} (hr : rd σ x = some (.own xs)) (hv : val x = some ov) (hl : xs.length < lid) (rv : Rep prog w s.heap (fun a => X a ∨ M a) v d)
    {Q : Value → Shared → Prop} (h : ∀ s', Nx prog w env vs base X M s (put σ x (.own (xs ++ [d]))) s' → Q .none s') : ∃ a, ov = .ref a ∧ (∃ ws n, s.heap.get? a = some (lstObj ws n) ∧ ws.length ≤ sizeLine ∧ Q .none { s with heap := s.heap.update a (Obj.mapSeq fun xs => xs.push v) }) := by
  obtain ⟨v', hv', rs⟩ := I.rep x _ hr
  rw [hv] at hv'
  cases hv'
  obtain ⟨a, ws, n, rfl, hfp, g, r⟩ := rs.ownInv
  refine ⟨a, rfl, ws, n, g, by rw [r.length]; exact Nat.le_trans (Nat.le_of_lt hl) lid_le, h _ (turn_nx (ws := ws ++ [v]) (m := n + 1) I hr hfp ?_ (Heap.SameBut.update ..) (r.append (.cons rv .nil)) s.toks)⟩
  have := Heap.get?_update_self (Obj.mapSeq fun xs => xs.push v) g rfl
  rw [this]
  simp [Obj.mapSeq, lstObj]
end
end Mine

set_option maxRecDepth 100000
namespace Mine
open PySem PySem.Spec PyProof.Rows

def eslen : Es → Nat
  | .nil => 0
  | .cons _ es => eslen es + 1
theorem evs_len {Γ : Gam} : ∀ (es : Es) {σ : Sto} {ds : List D}, evs Γ es σ = some ds → ds.length = eslen es
  | .nil, σ, ds, h => by cases h; rfl
  | .cons e es, σ, ds, h => by
    obtain ⟨d, hd, h⟩ := bind_some h
    obtain ⟨ds', hds, rfl⟩ := Option.map_eq_some_iff.mp h
    simp [eslen, evs_len es hds]

inductive SAsg (sc : Scope) (vs : List Str) (x : Nat) (e : E) : Stmt → Prop
  | assign {nm v p1 p} : vs[x]? = some nm → ME sc vs e v → (∀ env l, swapsWith v (some (.Name nm p1)) l env = pure false) → SAsg sc vs x e (.Assign [.Name nm p1] v p)
  | assignC {nm e' it elt iter cx px scope cpos p1 p} : e = .comp e' it → vs[x]? = some nm → MI sc vs it iter → ME (relab scope sc) (vs ++ [cx]) e' elt → CompOK sc scope cx vs iter →
      (∀ env, env.scope = sc → swapsWith (.ListComp elt [⟨.Name cx px, iter, [], 0⟩] scope cpos) (some (.Name nm p1)) p.line env = pure true) → SAsg sc vs x e (.Assign [.Name nm p1] (.ListComp elt [⟨.Name cx px, iter, [], 0⟩] scope cpos) p)
inductive SOwn (sc : Scope) (vs : List Str) (x : Nat) (e : E) : Stmt → Prop
  | mk {nm v p1 p} : vs[x]? = some nm → ME sc vs e v → (∀ env l, swapsWith v (some (.Name nm p1)) l env = pure false) → SOwn sc vs x e (.Assign [.Name nm p1] v p)
inductive STake (vs : List Str) (x y k : Nat) : Stmt → Prop
  | mk {nx ny p1 p2 kk p3 p4 p} : vs[x]? = some nx → vs[y]? = some ny → (ny == ("__debug__" : Str)) = false → k < 4096 → STake vs x y k (.Assign [.Name nx p1] (.Subscript (.Name ny p2) (.Constant (.int (k : Nat)) kk p3) p4) p)
inductive SUnp (sc : Scope) (vs : List Str) (xs : List Nat) (e : E) : Stmt → Prop
  | mk {nms : List (Str × Pos)} {v k p1 p} : xs.map (vs[·]?) = nms.map (fun q : Str × Pos => some q.1) → ME sc vs e v → (∀ env l, swapsWithSole [.Tuple (nms.map fun q => .Name q.1 q.2) k p1] v l env = pure false) → (∀ env, swappedStores [.Tuple (nms.map fun q => .Name q.1 q.2) k p1] v env = pure none) →
      SUnp sc vs xs e (.Assign [.Tuple (nms.map fun q => .Name q.1 q.2) k p1] v p)
inductive SSet (sc : Scope) (vs : List Str) (x : Nat) (i e : E) : Stmt → Prop
  | mk {nm y v p1 p2 p} : vs[x]? = some nm → (nm == ("__debug__" : Str)) = false → ME sc vs i y → ME sc vs e v → (∀ env l, swapsWith v (some (.Subscript (.Name nm p1) y p2)) l env = pure false) → SSet sc vs x i e (.Assign [.Subscript (.Name nm p1) y p2] v p)
inductive SApp (sc : Scope) (vs : List Str) (x : Nat) (e : E) : Stmt → Prop
  | mk {nm v p1 ap p2 p} : vs[x]? = some nm → (nm == ("__debug__" : Str)) = false → ME sc vs e v → (ap.endLine == p2.line) = true → SApp sc vs x e (.Expr (.Call (.Attribute (.Name nm p1) (Str.ofString "append") ap) [v] [] p2) p)
inductive SIf (T : Expr → Prop) (A B : List Stmt → Prop) : Stmt → Prop
  | mk {x xs ys p} : T x → A xs → B ys → SIf T A B (.If x xs ys p)
inductive SFor (vs : List Str) (x : Nat) (I : Expr → Prop) (B : List Stmt → Prop) : Stmt → Prop
  | mk {nm iter body p1 p} : vs[x]? = some nm → I iter → B body → (∀ env v, foldedSetIterable iter env v = pure v) → SFor vs x I B (.For (.Name nm p1) iter body [] p)
inductive SFor2 (vs : List Str) (x y : Nat) (I : Expr → Prop) (B : List Stmt → Prop) : Stmt → Prop
  | mk {nx ny iter body p1 p2 k tp p} : vs[x]? = some nx → vs[y]? = some ny → I iter → B body → (∀ env v, foldedSetIterable iter env v = pure v) → SFor2 vs x y I B (.For (.Tuple [.Name nx p1, .Name ny p2] k tp) iter body [] p)
inductive SWh (T : Expr → Prop) (B : List Stmt → Prop) : Stmt → Prop
  | mk {x body p} : T x → B body → SWh T B (.While x body [] p)
inductive SRet (A : Expr → Prop) : Stmt → Prop
  | mk {x p} : A x → SRet A (.Return (some x) p)
inductive SRet2 (vs : List Str) (x y : Nat) (es : Es) (X : List Expr → Prop) : Stmt → Prop
  | mk {nx ny xs p1 p2 k p3 p} : vs[x]? = some nx → vs[y]? = some ny → (nx == ("__debug__" : Str)) = false → (ny == ("__debug__" : Str)) = false → X xs → eslen es ≤ 8 → SRet2 vs x y es X (.Return (some (.Tuple (.Name nx p1 :: .Name ny p2 :: xs) k p3)) p)
inductive SBrk : Stmt → Prop
  | mk {p} : SBrk (.Break p)
inductive SLaid (sc : Scope) (M F R : Expr → Prop) : Stmt → Prop
  | mk {xm xf xr p1 p2 p3 k p4 p5 p} : gl sc "_law_laid" → M xm → F xf → R xr → behindInMarks .NotEq xr = false →
      SLaid sc M F R (.If (.Compare (.Call (.Name (Str.ofString "_law_laid") p1) [xm, xf] [] p2) [.NotEq] [xr] p3) [.Return (some (.Constant (.bool false) k p4)) p5] [] p)
inductive SNil : List Stmt → Prop
  | mk : SNil []
inductive SCons (s : S) (A : Stmt → Prop) (X : List Stmt → Prop) : List Stmt → Prop
  | frz {x sts} : s = .frz x → X sts → SCons s A X sts
  | cons {st sts} : A st → X sts → SCons s A X (st :: sts)
mutual
def MS (sc : Scope) (vs : List Str) : S → Stmt → Prop
  | .assign x e => SAsg sc vs x e
  | .assignO x e => SOwn sc vs x e
  | .take x y k => STake vs x y k
  | .frz _ => fun _ => False
  | .unpack xs e => SUnp sc vs xs e
  | .setidx x i e => SSet sc vs x i e
  | .append x e => SApp sc vs x e
  | .ite t a b => SIf (MT sc vs t) (MSs sc vs a) (MSs sc vs b)
  | .for1 x it b => SFor vs x (MI sc vs it) (MSs sc vs b)
  | .for2 x y it b => SFor2 vs x y (MI sc vs it) (MSs sc vs b)
  | .while t b => SWh (MT sc vs t) (MSs sc vs b)
  | .ret e => SRet (ME sc vs e)
  | .ret2 x y es => SRet2 vs x y es (MEs sc vs es)
  | .brk => SBrk
  | .raise _ _ => fun _ => False
  | .laid m f r => SLaid sc (ME sc vs m) (ME sc vs f) (ME sc vs r)
def MSs (sc : Scope) (vs : List Str) : Ss → List Stmt → Prop
  | .nil => SNil
  | .cons s ss => SCons s (MS sc vs s) (MSs sc vs ss)
end

section
variable {prog : Program} {w : World} {W : Heap → Prop} {fn : String → Option Addr} {A : Around} {n fuel : Nat} {Γ : Gam} {Λ : List D → Option D} {env : Env} {vs : List Str} {base : Heap} {X : Addr → Prop}

def LaidOK (prog : Program) (w : World) (W : Heap → Prop) (fn : String → Option Addr) (A : Around) (env : Env) (ds : List D) (l : D) : Prop :=
  ∃ a, fn "_law_laid" = some a ∧ ∀ (s : Shared) (U : Addr → Prop) (vals : List Value) (E : Value → Shared → Prop), (∃ base, W base ∧ Ext base s.heap ∧ base.get? env.locals = none) → U env.locals → (∃ m, s.heap.Ns env.locals m) →
    UB U s.heap → Reps prog w s.heap U vals ds →
    wpAny (model prog w) A (call (.ref a) vals) (fun v s' => St s s' ∧ KeepBut env.locals s.heap s'.heap ∧ Rep prog w s'.heap U v l) E s

/-- the frame's own facts -/
structure Fm (prog : Program) (w : World) (W : Heap → Prop) (fn : String → Option Addr) (A : Around) (n : Nat) (Γ : Gam) (Λ : List D → Option D) (env : Env) (vs : List Str) (base : Heap) : Prop where
  O : WOK W fn
  rm : Room A n
  hΓ : ∀ f ds r, Γ f ds = some r → FunOK prog w W fn n f ds r
  F : FS env vs
  V : EO env
  hW : W base
  hΛ : ∀ ds l, Λ ds = some l → LaidOK prog w W fn A env ds l

theorem name_ok {M : Addr → Prop} {σ : Sto} {s : Shared} {val : Nat → Option Value} {fp : Nat → List Addr} {E : Value → Shared → Prop} (F : FS env vs) (I : Inv prog w env vs base X M σ s.heap val fp) {x : Nat} {nm : Str} {v : Value} {p : Pos} {Q : Value → Shared → Prop} (hx : vs[x]? = some nm) (hd : (nm == ("__debug__" : Str)) = false) (hv : val x = some v) (h : Q v s) :
    wpAny (model prog w) A (eval (.Name nm p) env) Q E s := wpAny_Name ((I.frv.loads F hx hv).wp F.kf h) hd

/-- a value that is handed back -/
theorem cs_vals {h' : Heap} {U : Addr → Prop} : ∀ {vs : List Value} {ds : List D}, Reps prog w h' U vs ds → CS prog w h' U vs (ds.map .val) []
  | _, _, .nil => .nil
  | _, _, .cons a r => .val a (cs_vals r)

theorem ret_rx {M : Addr → Prop} {h' : Heap} {v : Value} {d : D} (r : Rep prog w h' (fun a => X a ∨ M a) v d) : RX prog w base h' X v (.val d) := RX.ofVal (r.less fun _ q => .inl q)

theorem fo_for {a : D → Sto → Option Sto} {b : Sto → Option O} {xs : List D} {σ : Sto} {o : O} (h : fo a b xs σ = some o) : (xs = [] ∧ o = .next σ) ∨ ∃ x r σ' o', xs = x :: r ∧ a x σ = some σ' ∧ b σ' = some o' ∧
    ((∃ σ'', o' = .next σ'' ∧ fo a b r σ'' = some o) ∨ (∃ σ'', o' = .brk σ'' ∧ o = .next σ'') ∨ (∃ v, o' = .ret v ∧ o = .ret v)) := by
  cases xs with
  | nil => simp [fo] at h; exact .inl ⟨rfl, h.symm⟩
  | cons x r =>
    simp only [fo] at h
    obtain ⟨σ', h1, h⟩ := bind_some h
    obtain ⟨o', h2, h⟩ := bind_some h
    refine .inr ⟨x, r, σ', o', rfl, h1, h2, ?_⟩
    cases o' with
    | next σ'' => exact .inl ⟨σ'', rfl, h⟩
    | brk σ'' => simp at h; exact .inr (.inl ⟨σ'', rfl, h.symm⟩)
    | ret v => simp at h; exact .inr (.inr ⟨v, rfl, h.symm⟩)
    | exc c => cases h

set_option maxHeartbeats 2000000 in
/-- a for over known items -/
theorem for_ok {M : Addr → Prop} {σ : Sto} {s : Shared} {val : Nat → Option Value} {fp : Nat → List Addr} {E : Value → Shared → Prop} {iter target : Expr} {body : List Stmt} {p : Pos} {o : O} {a : D → Sto → Option Sto} {b : Sto → Option O}
    (hfold : ∀ env v, foldedSetIterable iter env v = pure v) (I : Inv prog w env vs base X M σ s.heap val fp) {xs : List D}
    (hit : wpAny (model prog w) A (eval iter env) (IPost prog w A s (fun a => X a ∨ M a) xs E) E s)
    (ho : fo a b xs σ = some o)
    (hgo : ∀ (I : Addr) (v : Value) (s₁ : Shared) (E' : Value → Shared → Prop) (Q : Unit → Shared → Prop), (∃ o, s₁.heap.get? I = some o ∧ Itr o) → Q () s₁ → wpAny (model prog w) A (letOwnedTupleGo target (.ref I) v) Q E' s₁)
    (hasg : ∀ {M' : Addr → Prop} {σ₁ σ₂ : Sto} {s₁ : Shared} {val' : Nat → Option Value} {fp' : Nat → List Addr} {E' : Value → Shared → Prop} {v : Value} {d : D} {Q : Unit → Shared → Prop}, Inv prog w env vs base X M' σ₁ s₁.heap val' fp' → Rep prog w s₁.heap (fun a => X a ∨ M' a) v d → a d σ₁ = some σ₂ → (∀ s', (∃ s₂, St s₁ s₂ ∧ Ext s₁.heap s₂.heap ∧ Nx prog w env vs base X M' s₂ σ₂ s') → Q () s') →
      wpAny (model prog w) A (assign target env v) Q E' s₁)
    (hbody : ∀ {M' : Addr → Prop} {σ₁ : Sto} {o' : O} {s₁ : Shared} {val' : Nat → Option Value} {fp' : Nat → List Addr} {E' : Value → Shared → Prop}, Inv prog w env vs base X M' σ₁ s₁.heap val' fp' → b σ₁ = some o' → wpAny (model prog w) A (PySem.execs body env) (OutR prog w env vs base X M' s₁ o') E' s₁) :
    wpAny (model prog w) A (PySem.exec (.For target iter body [] p) env) (OutR prog w env vs base X M s o) E s := by
  refine wpAny_For (wpAny_mono hit (fun xv s₁ h₁ => wpAny_mono h₁ (fun itv s₂ h₂ => ?_) fun _ _ e => e) fun _ _ e => e) (hfold env)
  obtain ⟨st₂, e₂, J, fps, P, Stt, rfl, Wk, hst, hJn, hfp, hitr, hP⟩ := h₂
  have nxs₂ : Nx prog w env vs base X M s σ s₂ := ⟨st₂, ⟨M, val, fp, I.ext e₂, fun _ h => .inl h⟩, fun b o _ q => e₂ b o q⟩
  have hJFx : ¬ Fx env J := fun f => by obtain ⟨o, q⟩ := I.frv.there f; rw [hJn] at q; cases q
  have hJb : base.get? J = none := fresh_none I.bas hJn
  obtain ⟨oJ0, qJ0, iJ0⟩ := hitr 0 _ hst
  -- what was there when the walk began, but for the iterator
  let Kp : (Addr → Prop) → Heap → Prop := fun M' h => (∀ c, M' c → M c ∨ s₂.heap.get? c = none) ∧ (∀ c o, ¬ M c → c ≠ J → s₂.heap.get? c = some o → h.get? c = some o) ∧ ∃ o, h.get? J = some o
  have fin : ∀ {M' : Addr → Prop} {σ' : Sto} {s' : Shared} {val' : Nat → Option Value} {fp' : Nat → List Addr}, St s s' → Inv prog w env vs base X M' σ' s'.heap val' fp' → Kp M' s'.heap → Nx prog w env vs base X M s σ' s' := fun {M' σ' s' val' fp'} st I' kp =>
    ⟨st, ⟨M', val', fp', I', fun c hc => (kp.1 c hc).imp id fun q => fresh_none e₂ q⟩, fun c o hc q => kp.2.1 c o hc (fun e => by rw [e, hJn] at q; cases q) (e₂ c o q)⟩
  have step : ∀ {M' M'' : Addr → Prop} {σ' : Sto} {s₃ s₄ : Shared}, Kp M' s₃.heap → Nx prog w env vs base X M' s₃ σ' s₄ → (∀ c, M'' c → M' c ∨ s₃.heap.get? c = none) → ¬ M' J → Kp M'' s₄.heap := fun {M' M'' σ' s₃ s₄} kp nx hM hJ => by
    refine ⟨fun c hc => ?_, fun c o hm hcJ q => nx.keep c o (fun m => (kp.1 c m).elim hm fun e => by rw [q] at e; cases e) (kp.2.1 c o hm hcJ q), ?_⟩
    · rcases hM c hc with m | m
      · exact kp.1 c m
      · by_cases hm : M c
        · exact .inl hm
        · refine .inr ?_
          cases q : s₂.heap.get? c with
          | none => rfl
          | some o =>
            by_cases hcJ : c = J
            · obtain ⟨oj, qj⟩ := kp.2.2
              rw [hcJ, qj] at m
              cases m
            · rw [kp.2.1 c o hm hcJ q] at m
              cases m
    · obtain ⟨oj, qj⟩ := kp.2.2
      exact ⟨oj, nx.keep J oj hJ qj⟩
  refine codeAny_forLoop_any (fun k s' => ∃ (i : Nat) (σ' : Sto) (M' : Addr → Prop) (val' : Nat → Option Value) (fp' : Nat → List Addr), k = xs.length + 1 - i ∧ i ≤ xs.length ∧ fo a b (xs.drop i) σ' = some o ∧ St s s' ∧ Inv prog w env vs base X M' σ' s'.heap val' fp' ∧ Kp M' s'.heap ∧ Stt i s'.heap) ?_ (xs.length + 1)
    ⟨0, σ, M, val, fp, rfl, Nat.zero_le _, by simpa using ho, st₂, I.ext e₂, ⟨fun _ h => .inl h, fun _ _ _ _ q => q, oJ0, qJ0⟩, hst⟩
  rintro k s' ⟨i, σ', M', val', fp', rfl, hi, hfo, st', I', kp', hSt⟩
  obtain ⟨oJ, qJ, iJ⟩ := hitr i _ hSt
  have hJM : ¬ M' J := fun m => by
    obtain ⟨o, q, dd⟩ := I'.there m
    rw [qJ] at q
    cases q
    exact dd.elim hJFx iJ.nd
  by_cases hlt : i < xs.length
  · have hdrop : xs.drop i = xs[i] :: xs.drop (i + 1) := List.drop_eq_getElem_cons hlt
    rw [hdrop] at hfo
    rcases fo_for hfo with ⟨h, _⟩ | ⟨x, r, σ₁, o', hxr, ha, hb, hrest⟩
    · cases h
    simp only [List.cons.injEq] at hxr
    obtain ⟨rfl, rfl⟩ := hxr
    refine Wk.item i _ _ _ hlt hSt fun v h₁ tk₁ hPv hst₁ hk₁ => ?_
    obtain ⟨d, hxd, hrd⟩ := hP i v hPv
    have hd : d = xs[i] := by rw [List.getElem?_eq_getElem hlt] at hxd; exact (Option.some.inj hxd).symm
    subst hd
    have k1 : ∀ b o, b ≠ J → s'.heap.get? b = some o → h₁.get? b = some o := fun b o hb q => hk₁ b o (fun hm => hb (List.mem_singleton.mp hm)) q
    obtain ⟨oJ₁, qJ₁, iJ₁⟩ := hitr (i + 1) _ hst₁
    have I₁ : Inv prog w env vs base X M' σ' h₁ val' fp' := by
      refine I'.exti (fun b o q hdf => k1 b o (fun e => ?_) q) (fun b o q => k1 b o (fun e => ?_) (I'.bas b o q)) fun b o _ q => ?_
      · rcases hdf with dd | f
        · rw [e, qJ] at q; cases q; exact iJ.nd dd
        · exact hJFx (e ▸ f)
      · rw [e, hJb] at q; cases q
      · by_cases hb : b = J
        · exact ⟨oJ₁, hb ▸ qJ₁⟩
        · exact ⟨o, k1 b o hb q⟩
    have kp₁ : Kp M' h₁ := ⟨kp'.1, fun c o hm hcJ q => k1 c o hcJ (kp'.2.1 c o hm hcJ q), oJ₁, qJ₁⟩
    have hrep : Rep prog w h₁ (fun a => X a ∨ M' a) v xs[i] := by
      refine hrd.move (fun c o u q dd => ?_) fun c o u q dd y => ?_
      · exact kp₁.2.1 c o (fun m => u (.inr m)) (fun e => by rw [e, qJ0] at q; cases q; exact iJ0.nd dd) q
      · rcases y with y | y
        · exact u (.inl y)
        · rcases kp₁.1 c y with m | m
          · exact u (.inr m)
          · rw [q] at m; cases m
    refine hgo J v _ _ _ ⟨oJ₁, qJ₁, iJ₁⟩ ?_
    refine hasg (s₁ := { s' with heap := h₁, toks := tk₁ }) I₁ hrep ha fun s₃ ⟨s₂', st₂', e₂', nx₃⟩ => ?_
    obtain ⟨M₃, val₃, fp₃, I₃, hM₃⟩ := nx₃.inv
    have kp₂ : Kp M' s₂'.heap := ⟨kp₁.1, fun c o hm hcJ q => e₂' c o (kp₁.2.1 c o hm hcJ q), oJ₁, e₂' _ _ qJ₁⟩
    have kp₃ : Kp M₃ s₃.heap := step kp₂ nx₃ hM₃ hJM
    have qJ₃ : s₃.heap.get? J = some oJ₁ := nx₃.keep J _ hJM (e₂' _ _ qJ₁)
    have hJM₃ : ¬ M₃ J := fun m => (hM₃ J m).elim hJM fun q => by rw [e₂' _ _ qJ₁] at q; cases q
    have st₃ : St s s₃ := st'.trans ((St.mk' s' h₁ tk₁).trans (st₂'.trans nx₃.st))
    have hst₃ : Stt (i + 1) s₃.heap := Wk.frame _ _ _ hst₁ fun c hc o q => by
      rcases hfp c hc with rfl | ⟨hu, oc, qc, dc⟩
      · exact nx₃.keep _ _ hJM (e₂' _ _ q)
      · have hcJ : c ≠ J := fun e => by rw [e, qJ0] at qc; cases qc; exact iJ0.nd dc
        have h1 := kp₃.2.1 c oc (fun m => hu (.inr m)) hcJ qc
        have h2 := kp₁.2.1 c oc (fun m => hu (.inr m)) hcJ qc
        rw [q] at h2
        cases h2
        exact h1
    refine wpAny_mono (hbody I₃ hb) (fun fl s₄ out => ?_) fun _ _ e => e
    have more : ∀ {σ₄ : Sto}, Nx prog w env vs base X M₃ s₃ σ₄ s₄ → ∃ M₄ val₄ fp₄, Inv prog w env vs base X M₄ σ₄ s₄.heap val₄ fp₄ ∧ Kp M₄ s₄.heap ∧ Stt (i + 1) s₄.heap := fun {σ₄} nx₄ => by
      obtain ⟨M₄, val₄, fp₄, I₄, hM₄⟩ := nx₄.inv
      refine ⟨M₄, val₄, fp₄, I₄, step kp₃ nx₄ hM₄ hJM₃, Wk.frame _ _ _ hst₃ fun c hc o q => nx₄.keep c o (fun m => ?_) q⟩
      rcases hfp c hc with rfl | ⟨hu, oc, qc, dc⟩
      · exact hJM₃ m
      · rcases kp₃.1 c m with m | m
        · exact hu (.inr m)
        · rw [qc] at m; cases m
    rcases hrest with ⟨σ₄, rfl, hfo'⟩ | ⟨σ₄, rfl, rfl⟩ | ⟨r, rfl, rfl⟩
    · obtain ⟨rfl, nx₄⟩ := out
      obtain ⟨M₄, val₄, fp₄, I₄, kp₄, hst₄⟩ := more nx₄
      exact ⟨xs.length + 1 - (i + 1), by lia, i + 1, σ₄, M₄, val₄, fp₄, rfl, hlt, hfo', st₃.trans nx₄.st, I₄, kp₄, hst₄⟩
    · obtain ⟨rfl, nx₄⟩ := out
      obtain ⟨M₄, val₄, fp₄, I₄, kp₄, hst₄⟩ := more nx₄
      exact ⟨rfl, fin (st₃.trans nx₄.st) I₄ kp₄⟩
    · obtain ⟨v', rfl, st₄, e₄⟩ := out
      exact ⟨v', rfl, st₃.trans st₄, e₄⟩
  · have hin : i = xs.length := by lia
    subst hin
    rw [List.drop_length] at hfo
    simp only [fo, Option.some.injEq] at hfo
    subst hfo
    refine Wk.done _ _ _ hSt fun h₁ tk₁ hk₁ => ?_
    have k1 : ∀ b o, b ≠ J → s'.heap.get? b = some o → h₁.get? b = some o := fun b o hb q => hk₁ b o (fun hm => hb (List.mem_singleton.mp hm)) q
    have hXJ : ¬ X J := fun x => by
      obtain ⟨o, q⟩ := (I.old J x).1
      rw [hJn] at q
      cases q
    have I₁ : Inv prog w env vs base X M' σ' h₁ val' fp' := by
      refine I'.exti (fun b o q hdf => k1 b o (fun e => ?_) q) (fun b o q => k1 b o (fun e => ?_) (I'.bas b o q)) fun b o x q => ⟨o, k1 b o (fun e => hXJ (e ▸ x)) q⟩
      · rcases hdf with dd | f
        · rw [e, qJ] at q; cases q; exact iJ.nd dd
        · exact hJFx (e ▸ f)
      · rw [e, hJb] at q; cases q
    refine wpAny_execs_nil ⟨rfl, st'.trans ⟨h₁, tk₁, rfl⟩, ⟨M', val', fp', I₁, fun c hc => (kp'.1 c hc).imp id fun q => fresh_none e₂ q⟩, fun c o hc q => ?_⟩
    have hcJ : c ≠ J := fun e => by rw [e, hJn] at q; cases q
    exact k1 c o hcJ (kp'.2.1 c o hc hcJ (e₂ c o q))

theorem wh_while {t : Sto → Option Bool} {b : Sto → Option O} {k : Nat} {σ : Sto} {o : O} (h : wh t b (k + 1) σ = some o) : (t σ = some false ∧ o = .next σ) ∨ (t σ = some true ∧ ∃ o', b σ = some o' ∧
    ((∃ σ'', o' = .next σ'' ∧ wh t b k σ'' = some o) ∨ (∃ σ'', o' = .brk σ'' ∧ o = .next σ'') ∨ (∃ v, o' = .ret v ∧ o = .ret v))) := by
  simp only [wh] at h
  obtain ⟨c, h1, h⟩ := bind_some h
  cases c with
  | false => simp at h; exact .inl ⟨h1, h.symm⟩
  | true =>
    rw [if_pos rfl] at h
    obtain ⟨o', h2, h⟩ := bind_some h
    refine .inr ⟨h1, o', h2, ?_⟩
    cases o' with
    | next σ'' => exact .inl ⟨σ'', rfl, h⟩
    | brk σ'' => simp at h; exact .inr (.inl ⟨σ'', rfl, h.symm⟩)
    | ret v => simp at h; exact .inr (.inr ⟨v, rfl, h.symm⟩)
    | exc c => cases h

theorem while_ok {M : Addr → Prop} {σ : Sto} {s : Shared} {val : Nat → Option Value} {fp : Nat → List Addr} {E : Value → Shared → Prop} {test : Expr} {body : List Stmt} {p : Pos} {o : O} {t : Sto → Option Bool} {b : Sto → Option O} {k : Nat}
    (I : Inv prog w env vs base X M σ s.heap val fp) (ho : wh t b k σ = some o)
    (htest : ∀ {M' : Addr → Prop} {σ₁ : Sto} {c : Bool} {s₁ : Shared} {val' : Nat → Option Value} {fp' : Nat → List Addr} {E' : Value → Shared → Prop}, Inv prog w env vs base X M' σ₁ s₁.heap val' fp' → t σ₁ = some c → wpAny (model prog w) A (isTrue test env (eval test env)) (TPost s₁ c) E' s₁)
    (hbody : ∀ {M' : Addr → Prop} {σ₁ : Sto} {o' : O} {s₁ : Shared} {val' : Nat → Option Value} {fp' : Nat → List Addr} {E' : Value → Shared → Prop}, Inv prog w env vs base X M' σ₁ s₁.heap val' fp' → b σ₁ = some o' → wpAny (model prog w) A (PySem.execs body env) (OutR prog w env vs base X M' s₁ o') E' s₁) :
    wpAny (model prog w) A (PySem.exec (.While test body [] p) env) (OutR prog w env vs base X M s o) E s := by
  refine wpAny_While (codeAny_whileLoop (fun k s' => ∃ σ', wh t b k σ' = some o ∧ Nx prog w env vs base X M s σ' s') ?_ k ⟨σ, ho, .refl I⟩)
  rintro k s' ⟨σ', hwh, nx⟩
  obtain ⟨M', val', fp', I', hM'⟩ := nx.inv
  cases k with
  | zero => simp [wh] at hwh
  | succ k =>
    rcases wh_while hwh with ⟨h1, rfl⟩ | ⟨h1, o', h2, h3⟩
    · refine wpAny_mono (htest I' h1) (fun c s₁ h₁ => ?_) fun _ _ e => e
      obtain ⟨st₁, e₁, rfl⟩ := h₁
      rw [if_neg (by simp)]
      exact wpAny_execs_nil ⟨rfl, nx.trans hM' ⟨st₁, ⟨M', val', fp', I'.ext e₁, fun _ h => .inl h⟩, fun b o _ q => e₁ b o q⟩⟩
    · refine wpAny_mono (htest I' h1) (fun c s₁ h₁ => ?_) fun _ _ e => e
      obtain ⟨st₁, e₁, rfl⟩ := h₁
      rw [if_pos rfl]
      have nx₁ : Nx prog w env vs base X M s σ' s₁ := nx.trans hM' ⟨st₁, ⟨M', val', fp', I'.ext e₁, fun _ h => .inl h⟩, fun b o _ q => e₁ b o q⟩
      refine wpAny_mono (hbody (I'.ext e₁) h2) (fun fl s₂ out => ?_) fun _ _ e => e
      rcases h3 with ⟨σ₂, rfl, h4⟩ | ⟨σ₂, rfl, rfl⟩ | ⟨v, rfl, rfl⟩
      · obtain ⟨rfl, nx₂⟩ := out
        exact ⟨k, Nat.lt_succ_self _, σ₂, h4, nx₁.trans hM' nx₂⟩
      · obtain ⟨rfl, nx₂⟩ := out
        exact ⟨rfl, nx₁.trans hM' nx₂⟩
      · obtain ⟨v', rfl, st₂, e₂⟩ := out
        exact ⟨v', rfl, nx₁.st.trans st₂, e₂⟩

theorem names_each (nms : List (Str × Pos)) (env : Env) : (assignEach (nms.map fun q => Expr.Name q.1 q.2) env).map (·.2) = nms.map fun q => assign (.Name q.1 q.2) env := by
  induction nms with
  | nil => rfl
  | cons q r ih => simp only [List.map_cons]; rw [← ih]; rfl
theorem names_len (nms : List (Str × Pos)) (env : Env) : (assignEach (nms.map fun q => Expr.Name q.1 q.2) env).length = nms.length := by
  have := congrArg List.length (names_each nms env)
  simpa using this
theorem names_star (nms : List (Str × Pos)) (env : Env) : (assignEach (nms.map fun q => Expr.Name q.1 q.2) env).findIdx? (·.1) = none := by
  induction nms with
  | nil => rfl
  | cons q r ih =>
    show List.findIdx? _ ((false, _) :: assignEach (r.map fun q => Expr.Name q.1 q.2) env) = none
    rw [List.findIdx?_cons]
    simp [ih]
theorem puts_len : ∀ (xs : List Nat) (ds : List D) {σ σ' : Sto}, puts xs ds σ = some σ' → xs.length = ds.length
  | [], [], _, _, _ => rfl
  | [], _ :: _, _, _, h => by simp [puts] at h
  | _ :: _, [], _, _, h => by simp [puts] at h
  | x :: xs, d :: ds, _, _, h => by simp only [puts] at h; simp [puts_len xs ds h]

/-- a tuple taken apart -/
theorem unpack_ok (hh : A.handled = none) (F : FS env vs) {M : Addr → Prop} {σ σ' : Sto} {s : Shared} {val : Nat → Option Value} {fp : Nat → List Addr} {E : Value → Shared → Prop} {v : Value} {ds : List D} {xs : List Nat} {nms : List (Str × Pos)} {k : Nat} {p : Pos} {Q : Unit → Shared → Prop}
    (I : Inv prog w env vs base X M σ s.heap val fp) (rv : Rep prog w s.heap (fun a => X a ∨ M a) v (.tup ds)) (hn : xs.map (vs[·]?) = nms.map (fun q => some q.1)) (hp : puts xs ds σ = some σ') (h : ∀ s', (∃ s₂, St s s₂ ∧ Ext s.heap s₂.heap ∧ Nx prog w env vs base X M s₂ σ' s') → Q () s') :
    wpAny (model prog w) A (assign (.Tuple (nms.map fun q => .Name q.1 q.2) k p) env v) Q E s := by
  cases rv with
  | @tup t ws m _ u g r =>
    have ht : IsTup s.heap t ws.toArray := ⟨_, g, rfl, m, rfl⟩
    have hl : nms.length = ws.length := by
      have h1 := puts_len xs ds hp
      have h2 := congrArg List.length hn
      simp at h2
      have := r.length
      lia
    refine assign_Tuple_tuple hh ht (by rw [names_len, List.size_toArray]; exact hl) (names_star nms env) fun h' e' => ?_
    have e : Ext s.heap h' := fun b o q => e' b o (Nat.ne_of_lt (Heap.lt_size q)) q
    rw [names_each]
    exact puts_ok (s := { s with heap := h' }) F xs nms ds ws (I.ext e) (r.ext e) hn hp fun s' nx => h s' ⟨_, ⟨h', s.toks, rfl⟩, e, nx⟩

section
variable (prog : Program) (w : World) (A : Around) (fuel : Nat) (Γ : Gam) (Λ : List D → Option D) (env : Env) (vs : List Str) (base : Heap) (X : Addr → Prop)
def ExP (t : S) : Prop := ∀ {st : Stmt}, MS env.scope vs t st → ∀ {M : Addr → Prop} {σ : Sto} {s : Shared} {val : Nat → Option Value} {fp : Nat → List Addr} {o : O} {E : Value → Shared → Prop}, Inv prog w env vs base X M σ s.heap val fp → exec Γ Λ fuel t σ = some o →
    wpAny (model prog w) A (PySem.exec st env) (OutR prog w env vs base X M s o) E s
def XsP (t : Ss) : Prop := ∀ {sts : List Stmt}, MSs env.scope vs t sts → ∀ {M : Addr → Prop} {σ : Sto} {s : Shared} {val : Nat → Option Value} {fp : Nat → List Addr} {o : O} {E : Value → Shared → Prop}, Inv prog w env vs base X M σ s.heap val fp → execs Γ Λ fuel t σ = some o →
    wpAny (model prog w) A (PySem.execs sts env) (OutR prog w env vs base X M s o) E s
end
theorem own_rd {σ : Sto} {x : Nat} {xs : List D} (h : ownOf σ x = some xs) : rd σ x = some (.own xs) := by
  have h : (match rd σ x with | some (.own xs) => some xs | _ => none) = some xs := h
  cases hr : rd σ x with
  | none => rw [hr] at h; cases h
  | some r => rw [hr] at h; cases r <;> cases h; rfl
theorem rdB_some {σ : Sto} {i : Nat} {d : D} (h : rdB σ i = some d) : ∃ r, rd σ i = some r ∧ r.toD? = some d := by
  have h : (match rd σ i with | some (.val d) => some d | some (.own xs) => some (.lst xs) | _ => none) = some d := h
  cases hr : rd σ i with
  | none => rw [hr] at h; cases h
  | some r => rw [hr] at h; cases r <;> cases h <;> exact ⟨_, rfl, rfl⟩
theorem take_some {σ σ' : Sto} {x y k : Nat} (h : take1 σ x y k = some σ') : ∃ cs xs, rd σ y = some (.tup cs) ∧ cs[k]? = some (.own xs) ∧ x ≠ y ∧ put (put σ y (.tup (cs.set k .gone))) x (.own xs) = σ' := by
  have h : (match rd σ y with | some (.tup cs) => (match cs[k]? with | some (.own xs) => if x = y then none else some (put (put σ y (.tup (cs.set k .gone))) x (.own xs)) | _ => none) | _ => none) = some σ' := h
  cases hr : rd σ y with
  | none => rw [hr] at h; cases h
  | some r =>
    rw [hr] at h
    cases r with
    | tup cs =>
      have h : (match cs[k]? with | some (.own xs) => if x = y then none else some (put (put σ y (.tup (cs.set k .gone))) x (.own xs)) | _ => none) = some σ' := h
      cases hc : cs[k]? with
      | none => rw [hc] at h; cases h
      | some c =>
        rw [hc] at h
        cases c with
        | own xs =>
          by_cases q : x = y
          · cases (if_pos q).symm.trans h
          · exact ⟨cs, xs, rfl, hc, q, Option.some.inj ((if_neg q).symm.trans h)⟩
        | _ => cases h
    | _ => cases h
set_option linter.unusedVariables false in
theorem x_assign_k (C : Fm prog w W fn A n Γ Λ env vs base) {x : Nat} {e : Mine.E} : ExP prog w A fuel Γ Λ env vs base X (.assign x e) := by
  intro _ m M σ s val fp o E I he
  obtain ⟨d, hd, rfl⟩ := Option.map_eq_some_iff.mp he
  have c := I.cx C.O C.F C.V C.hW
  cases m with
  | assign hx me hs =>
    refine wpAny_Assign_Name (wpAny_mono (ev_ok C.O C.rm C.hΓ e me rfl c hd) (fun v s₁ p₁ => ?_) fun _ _ e => e) (hs env _)
    exact st_ok C.F I hx p₁.st p₁.ext (RX.ofVal p₁.rep) fun s' nx => ⟨rfl, nx⟩
  | @assignC nm e' it elt iter cx px scope cpos p1 p hec hx mi me ok hs =>
    subst hec
    obtain ⟨xs, hxs, hd⟩ := bind_some hd
    obtain ⟨ys, hys, hd⟩ := bind_some hd
    obtain ⟨q, rfl⟩ := mk_some hd
    · rw [exec_Assign_Name_used _ _ _ _ (hs env rfl)]
      refine wpAny_bind (wpAny_standAt (wpAny_bind ?_))
      show wpAny _ A (do let _ ← comprehension (.ListComp elt [⟨.Name cx px, iter, [], 0⟩] scope cpos) scope env _ (newList []) false (eval iter env) (some (assign (.Name nm p1) env))) _ _ s
      refine wpAny_bind (wpAny_mono (comp_core (Q := fun _ s' => Nx prog w env vs base X M s (put σ x (.val (.lst ys))) s') C.O C.V c.wl c.ub ok c.rd c.len (evI_ok C.O C.rm C.hΓ it mi rfl c hxs) hys q ?_ ?_) (fun _ s' nx => wpAny_pure (wpAny_pure ⟨rfl, nx⟩)) fun _ _ e => e)
      · intro cenv s₃ U' d y E' h1 h2 h3 h4 h5 h6
        exact wpAny_mono (ev_ok C.O C.rm C.hΓ e' me h1 ⟨h2, h3, h4, h5, by simp [c.len]⟩ h6) (fun _ _ p => ⟨p.st, p.ext, p.rep⟩) fun _ _ e => e
      · intro D Cc s₅ m hCn hDC st₅ e₅ hn₅ rx
        obtain ⟨oC, _, _, hoC, _⟩ := id hn₅
        have I₅ := I.addX e₅ hCn ⟨oC, hoC⟩
        have hXC : ¬ X Cc := fun x => by obtain ⟨o, q⟩ := (I.old Cc x).1; rw [hCn] at q; cases q
        have rep₅ : Rep prog w s₅.heap (fun a => (X a ∨ a = Cc) ∨ M a) (.ref D) (.lst ys) := by
          obtain ⟨fnn, rs, fr, nd⟩ := rx
          refine rs.look rfl (fun a o u _ _ y => u (.inl ?_)) fun a ha y => ?_
          · rcases y with (y | y) | y
            · exact .inl (.inl y)
            · exact .inr y
            · exact .inl (.inr y)
          · rcases y with (y | y) | y
            · obtain ⟨o, q⟩ := (I.old a y).1; rw [fr a ha] at q; cases q
            · cases rs with
              | own g r => rw [List.mem_singleton.mp ha] at y; exact hDC y
            · obtain ⟨o, q, _⟩ := I.there y; rw [fr a ha] at q; cases q
        refine wpAny_assign_Name (st_ok C.F I₅ hx (.refl s₅) (fun _ _ q => q) (RX.ofVal rep₅) fun s'' nx => ?_)
        obtain ⟨M₆, val₆, fp₆, I₆, hM₆⟩ := nx.inv
        have hCM₆ : ¬ M₆ Cc := (I₆.old Cc (.inr rfl)).2
        have hCM : ¬ M Cc := (I₅.old Cc (.inr rfl)).2
        refine ⟨m, hn₅.at' fun o q => nx.keep Cc o hCM q, fun h' hs' => ?_⟩
        refine ⟨st₅.trans (nx.st.trans ⟨h', s''.toks, rfl⟩), ⟨M₆, val₆, fp₆, I₆.dropX hs' (fresh_none I.bas hCn) hXC, fun a ha => (hM₆ a ha).imp id fun q => fresh_none e₅ q⟩, fun b o hb q => ?_⟩
        exact (hs'.2 b fun e => by rw [e, hCn] at q; cases q).trans (nx.keep b o hb (e₅ b o q))
set_option linter.unusedVariables false in
theorem x_assignO_k (C : Fm prog w W fn A n Γ Λ env vs base) {x : Nat} {e : Mine.E} : ExP prog w A fuel Γ Λ env vs base X (.assignO x e) := by
  intro _ m M σ s val fp o E I he
  obtain ⟨r, hr, rfl⟩ := Option.map_eq_some_iff.mp he
  have c := I.cx C.O C.F C.V C.hW
  cases m with
  | mk hx me hs =>
    refine wpAny_Assign_Name (Q := OutR prog w env vs base X M s (.next (put σ x r))) (wpAny_mono (Q := fun v s₁ => St s s₁ ∧ Ext s.heap s₁.heap ∧ RX prog w s.heap s₁.heap (fun a => X a ∨ M a) v r) ?_ (fun v s₁ p₁ => st_ok C.F I hx p₁.1 p₁.2.1 p₁.2.2 fun s' nx => ⟨rfl, nx⟩) fun _ _ e => e) (hs env _)
    have own : frs e = true → ∀ d, ev Γ e σ = some d → (match d with | .lst xs => some (R.own xs) | _ => none) = some r → wpAny (model prog w) A (eval _ env) (fun v s₁ => St s s₁ ∧ Ext s.heap s₁.heap ∧ RX prog w s.heap s₁.heap (fun a => X a ∨ M a) v r) E s := fun hf d hd hr => by
      refine wpAny_mono (ev_ok C.O C.rm C.hΓ e me rfl c hd) (fun v s₁ p₁ => ?_) fun _ _ e => e
      cases d with
      | lst xs => cases hr; exact ⟨p₁.st, p₁.ext, p₁.new hf xs rfl⟩
      | _ => cases hr
    cases e with
    | call f es =>
      obtain ⟨ds, hds, hr⟩ := bind_some hr
      cases me with
      | mk hg ms hne => exact call_user C.O C.rm c hg (C.hΓ f ds r hr) hne (mes_star ms) (evs_ok C.O C.rm C.hΓ es ms rfl c hds)
    | lst es =>
      obtain ⟨d, hd, hr⟩ := bind_some hr
      exact own rfl d hd hr
    | bin op a b =>
      obtain ⟨d, hd, hr⟩ := bind_some hr
      exact own rfl d hd hr
    | bi f a =>
      cases f with
      | list =>
        obtain ⟨d, hd, hr⟩ := bind_some hr
        exact own rfl d hd hr
      | _ => cases hr
    | _ => cases hr
set_option linter.unusedVariables false in
theorem x_take_k (C : Fm prog w W fn A n Γ Λ env vs base) {x : Nat} {y : Nat} {k : Nat} : ExP prog w A fuel Γ Λ env vs base X (.take x y k) := by
  intro _ m M σ s val fp o E I he
  obtain ⟨σ', hσ, rfl⟩ := Option.map_eq_some_iff.mp he
  cases m with
  | @mk nx ny p1 p2 kk p3 p4 p hx hy hd hk =>
    obtain ⟨cs, xs, hr, hc, hxy, rfl⟩ := take_some hσ
    obtain ⟨t, ws, m, a, hv, g, hws, hI⟩ := I.take hr hc hxy (lt_of_get hx)
    refine wpAny_Assign_Name (Subscript_ (name_ok C.F I hy hd hv (wpAny_Constant_int ?_))) rfl
    have hl : IsTup s.heap t ws.toArray := ⟨_, g, rfl, m, rfl⟩
    have hlt := lt_of_get hws
    refine tail_any (s := { s with toks := s.toks + 1 }) hl.typeIs slot_tuple_getitem.lookup (getItem_tuple hl (by lia) (by lia) (j := k) (by rw [List.size_toArray]; exact seqIndex_of (k := (k : Int)) (by lia) (by lia)) (by simpa using hws) ?_) rfl
    refine I.frv.store (s := { s with toks := s.toks + 1 }) C.F hx fun h' tk V' kp => ⟨rfl, ?_⟩
    obtain ⟨M', val', fp', I', hM'⟩ := hI V' kp
    exact ⟨⟨h', tk, rfl⟩, ⟨M', val', fp', I', fun a ha => .inl (hM' a ha)⟩, fun b o hb q => kp b o (fun f => hb ((I.mem b).mpr (.inl f))) q⟩
set_option linter.unusedVariables false in
theorem x_frz_k (C : Fm prog w W fn A n Γ Λ env vs base) {x : Nat} : ExP prog w A fuel Γ Λ env vs base X (.frz x) := by
  intro _ m
  exact m.elim
set_option linter.unusedVariables false in
theorem x_unpack_k (C : Fm prog w W fn A n Γ Λ env vs base) {xs : List Nat} {e : Mine.E} : ExP prog w A fuel Γ Λ env vs base X (.unpack xs e) := by
  intro _ m M σ s val fp o E I he
  obtain ⟨d, hd, he⟩ := bind_some he
  have c := I.cx C.O C.F C.V C.hW
  cases m with
  | mk hn me hs hw =>
    cases d with
    | tup ds =>
      obtain ⟨σ', hσ, rfl⟩ := Option.map_eq_some_iff.mp he
      refine Assign_Tuple (wpAny_mono (ev_ok C.O C.rm C.hΓ e me rfl c hd) (fun v s₁ p₁ => ?_) fun _ _ e => e) (hs env _) (hw env)
      refine unpack_ok C.rm.hd C.F (I.ext p₁.ext) p₁.rep hn hσ fun s' ⟨s₂, st₂, e₂, nx⟩ => ⟨rfl, ?_⟩
      exact Nx.since I (p₁.st.trans st₂) (fun b o q => e₂ b o (p₁.ext b o q)) nx
    | _ => cases he
set_option linter.unusedVariables false in
theorem x_setidx_k (C : Fm prog w W fn A n Γ Λ env vs base) {x : Nat} {i : Mine.E} {e : Mine.E} : ExP prog w A fuel Γ Λ env vs base X (.setidx x i e) := by
  intro _ m M σ s val fp o E I he
  obtain ⟨d, hd, he⟩ := bind_some he
  obtain ⟨k, hk, he⟩ := bind_some he
  have c := I.cx C.O C.F C.V C.hW
  cases m with
  | mk hx hnd mi me hs =>
    cases k with
    | int k =>
      obtain ⟨xs, hxs, he⟩ := bind_some he
      obtain ⟨q, rfl⟩ := if_some he
      · have hr := own_rd hxs
        refine wpAny_Assign_Subscript (wpAny_mono (ev_ok C.O C.rm C.hΓ e me rfl c hd) (fun v s₁ p₁ => ?_) fun _ _ e => e) (hs env _)
        have I₁ := I.ext p₁.ext
        obtain ⟨ov, hov, _⟩ := I.rep x _ hr
        refine name_ok C.F I₁ hx hnd hov ?_
        refine wpAny_mono (ev_ok C.O C.rm C.hΓ i mi rfl (c.ext C.O p₁.ext) hk) (fun iv s₂ p₂ => ?_) fun _ _ e => e
        have I₂ := I₁.ext p₂.ext
        refine set_ok I₂ hr hov (post_int p₂) q.1 q.2.1 q.2.2 (p₁.rep.ext p₂.ext) fun s' nx => ⟨rfl, ?_⟩
        exact Nx.since I (p₁.st.trans p₂.st) (fun b o q => p₂.ext b o (p₁.ext b o q)) nx
    | _ => cases he
set_option linter.unusedVariables false in
theorem x_append_k (C : Fm prog w W fn A n Γ Λ env vs base) {x : Nat} {e : Mine.E} : ExP prog w A fuel Γ Λ env vs base X (.append x e) := by
  intro _ m M σ s val fp o E I he
  obtain ⟨d, hd, he⟩ := bind_some he
  obtain ⟨xs, hxs, he⟩ := bind_some he
  have c := I.cx C.O C.F C.V C.hW
  cases m with
  | @mk nm v p1 ap p2 p hx hnd me hl =>
    obtain ⟨q, rfl⟩ := if_some he
    · have hr := own_rd hxs
      obtain ⟨ov, hov, rs⟩ := I.rep x _ hr
      obtain ⟨a, ws, m, rfl, hfp, g, r⟩ := rs.ownInv
      refine wpAny_Expr_any ?_ (by unfold interactive; rw [C.F.kf]; rfl) rfl
      refine wpAny_Call_method (T := "list") (id := "list.append") rfl (by rw [me_star me [] env]; rfl) hl F.plainAttrs_list F.slot_list_append (by rfl) ?_
      refine name_ok C.F I hx hnd hov ⟨⟨_, g, rfl⟩, fun a' e => by cases e; exact ⟨_, g, rfl⟩, ?_⟩
      rw [me_star me [] env]
      refine P.append_list (x := eval v env) (wpAny_mono (ev_ok C.O C.rm C.hΓ e me rfl c hd) (fun v' s₁ p₁ => ?_) fun _ _ e => e)
      obtain ⟨a', ha', ws', n', g', hsz, hQ⟩ := append_ok (Q := fun _ => OutR prog w env vs base X M s (.next (put σ x (.own (xs ++ [d])))) Flow.next) (I.ext p₁.ext) hr hov q p₁.rep fun s' nx => ⟨rfl, Nx.since I p₁.st p₁.ext nx⟩
      cases ha'
      exact ⟨ws'.toArray, n', by rw [List.size_toArray]; exact hsz, g', hQ⟩
set_option linter.unusedVariables false in
theorem x_ite_k (C : Fm prog w W fn A n Γ Λ env vs base) {t : T} {a : Ss} {b : Ss} (iha : XsP prog w A fuel Γ Λ env vs base X a) (ihb : XsP prog w A fuel Γ Λ env vs base X b) : ExP prog w A fuel Γ Λ env vs base X (.ite t a b) := by
  intro _ m M σ s val fp o E I he
  obtain ⟨k, hk, he⟩ := bind_some he
  have c := I.cx C.O C.F C.V C.hW
  cases m with
  | mk mt ma mb =>
    refine wpAny_If (wpAny_mono (evT_ok C.O C.rm C.hΓ t mt rfl c hk) (fun b' s₁ h₁ => ?_) fun _ _ e => e)
    obtain ⟨st₁, e₁, rfl⟩ := h₁
    have nx₁ : Nx prog w env vs base X M s σ s₁ := ⟨st₁, ⟨M, val, fp, I.ext e₁, fun _ h => .inl h⟩, fun b o _ q => e₁ b o q⟩
    cases b' with
    | true =>
      rw [if_pos rfl] at he ⊢
      exact wpAny_mono (iha ma (I.ext e₁) he) (fun fl s₂ out => out.after nx₁ fun _ h => .inl h) fun _ _ e => e
    | false =>
      rw [if_neg (by simp)] at he ⊢
      exact wpAny_mono (ihb mb (I.ext e₁) he) (fun fl s₂ out => out.after nx₁ fun _ h => .inl h) fun _ _ e => e
set_option linter.unusedVariables false in
theorem x_for1_k (C : Fm prog w W fn A n Γ Λ env vs base) {x : Nat} {it : It} {b : Ss} (ihb : XsP prog w A fuel Γ Λ env vs base X b) : ExP prog w A fuel Γ Λ env vs base X (.for1 x it b) := by
  intro _ m M σ s val fp o E I he
  obtain ⟨xs, hxs, he⟩ := bind_some he
  have c := I.cx C.O C.F C.V C.hW
  cases m with
  | mk hx mi mb hfold =>
    refine for_ok hfold I (evI_ok C.O C.rm C.hΓ it mi rfl c hxs) he (fun J v s₁ E' Q _ h => wpAny_pure h) ?_ (fun I' hb => ihb mb I' hb)
    intro M' σ₁ σ₂ s₁ val' fp' E' v d Q I' rv ha h
    cases ha
    exact wpAny_assign_Name (st_ok C.F I' hx (.refl s₁) (fun _ _ q => q) (RX.ofVal rv) fun s' nx => h s' ⟨s₁, .refl s₁, fun _ _ q => q, nx⟩)
set_option linter.unusedVariables false in
theorem x_for2_k (C : Fm prog w W fn A n Γ Λ env vs base) {x : Nat} {y : Nat} {it : It} {b : Ss} (ihb : XsP prog w A fuel Γ Λ env vs base X b) : ExP prog w A fuel Γ Λ env vs base X (.for2 x y it b) := by
  intro _ m M σ s val fp o E I he
  obtain ⟨xs, hxs, he⟩ := bind_some he
  have c := I.cx C.O C.F C.V C.hW
  cases m with
  | @mk nx ny iter body p1 p2 k tp p hx hy mi mb hfold =>
    refine for_ok hfold I (evI_ok C.O C.rm C.hΓ it mi rfl c hxs) he ?_ ?_ (fun I' hb => ihb mb I' hb)
    · intro J v s₁ E' Q hJ h
      obtain ⟨oj, qj, ij⟩ := hJ
      unfold letOwnedTupleGo
      cases v with
      | ref a =>
        refine wpAny_bind (wpAny_load qj ?_)
        split
        · rename_i nn vv hc hd
          rw [if_neg]
          · exact wpAny_pure h
          · rcases ij with ij | ij <;> rw [hc] at ij <;> cases ij <;> simp
        · exact wpAny_pure h
      | _ => exact wpAny_pure h
    · intro M' σ₁ σ₂ s₁ val' fp' E' v d Q I' rv ha h
      cases d with
      | tup ds => exact unpack_ok (nms := [(nx, p1), (ny, p2)]) C.rm.hd C.F I' rv (by simp [hx, hy]) ha h
      | _ => cases ha
set_option linter.unusedVariables false in
theorem x_while_k (C : Fm prog w W fn A n Γ Λ env vs base) {t : T} {b : Ss} (ihb : XsP prog w A fuel Γ Λ env vs base X b) : ExP prog w A fuel Γ Λ env vs base X (.while t b) := by
  intro _ m M σ s val fp o E I he
  cases m with
  | mk mt mb => exact while_ok I he (fun I' hk => evT_ok C.O C.rm C.hΓ t mt rfl (I'.cx C.O C.F C.V C.hW) hk) fun I' hb => ihb mb I' hb
set_option linter.unusedVariables false in
theorem x_ret_k (C : Fm prog w W fn A n Γ Λ env vs base) {e : Mine.E} : ExP prog w A fuel Γ Λ env vs base X (.ret e) := by
  intro _ m M σ s val fp o E I he
  obtain ⟨d, hd, rfl⟩ := Option.map_eq_some_iff.mp he
  have c := I.cx C.O C.F C.V C.hW
  cases m with
  | mk me =>
    refine wpAny_Return_some ?_
    have other : ev Γ e σ = some d → wpAny (model prog w) A (eval _ env) (fun v => OutR prog w env vs base X M s (.ret (.val d)) (.ret v)) E s := fun q =>
      wpAny_mono (ev_ok C.O C.rm C.hΓ e me rfl c q) (fun v s₁ p₁ => ⟨v, rfl, p₁.st, fun b o q => p₁.ext b o (I.bas b o q), ret_rx p₁.rep⟩) fun _ _ e => e
    cases e with
    | var i =>
      cases me with
      | @mk x p hx hk hdb =>
        obtain ⟨r, hr, hto⟩ := rdB_some hd
        obtain ⟨v, hv, rs⟩ := I.rep i r hr
        refine name_ok C.F I hx hdb hv ⟨v, rfl, .refl s, I.bas, RX.ofVal (rs.look hto (fun a o u _ _ y => u (.inl y)) fun a ha y => ?_)⟩
        exact (I.old a y).2 ((I.mem a).mpr (.inr ⟨i, ha⟩))
    | _ => exact other hd
set_option linter.unusedVariables false in
theorem x_ret2_k (C : Fm prog w W fn A n Γ Λ env vs base) {x : Nat} {y : Nat} {es : Es} : ExP prog w A fuel Γ Λ env vs base X (.ret2 x y es) := by
  intro _ m M σ s val fp o E I he
  have c := I.cx C.O C.F C.V C.hW
  cases m with
  | @mk nx ny xs p1 p2 k p3 p hx hy hdx hdy ms hlen =>
    by_cases hxy : x = y
    · cases (if_pos hxy).symm.trans he
    · have he := (if_neg hxy).symm.trans he
      obtain ⟨us, hus, he⟩ := bind_some he
      obtain ⟨ws, hws, he⟩ := bind_some he
      obtain ⟨ds, hds, rfl⟩ := Option.map_eq_some_iff.mp he
      have hrx := own_rd hus
      have hry := own_rd hws
      obtain ⟨vx, hvx, rsx⟩ := I.rep x _ hrx
      obtain ⟨vy, hvy, rsy⟩ := I.rep y _ hry
      obtain ⟨ax, wx, mx, rfl, hfx, gx, rx⟩ := rsx.ownInv
      obtain ⟨ay, wy, my, rfl, hfy, gy, ry⟩ := rsy.ownInv
      refine wpAny_Return_some (Tuple_ ?_)
      refine Calls.spliced_cons (name_ok C.F I hx hdx hvx (Calls.spliced_cons (name_ok C.F I hy hdy hvy ?_)))
      refine wpAny_mono (evs_ok C.O C.rm C.hΓ es ms rfl c hds) (fun vals s₁ h₁ => ?_) fun _ _ e => e
      obtain ⟨st₁, e₁, r₁⟩ := h₁
      have hxm : ax ∈ fp x := by rw [hfx]; exact .head _
      have hym : ay ∈ fp y := by rw [hfy]; exact .head _
      have hMx := (I.mem ax).mpr (.inr ⟨x, hxm⟩)
      have hMy := (I.mem ay).mpr (.inr ⟨y, hym⟩)
      have hne : ax ≠ ay := fun e => hxy (I.one x y ax hxm (e ▸ hym))
      have hdl := evs_len es hds
      have e2 : Ext s₁.heap (s₁.heap.push (tupObj (.ref ax :: .ref ay :: vals) 0)) := fun b o q => Heap.get?_push_of_some _ q
      refine wpAny_newObj_type ?_ (by show (Value.ref ax :: .ref ay :: vals).toArray.size ≤ sizeLine; rw [List.size_toArray, List.length_cons, List.length_cons, r₁.length, hdl]; exact Nat.le_trans (by lia) (show 10 ≤ sizeLine by decide))
      refine ⟨_, rfl, st₁.trans ⟨_, s₁.toks, rfl⟩, fun b o q => e2 b o (e₁ b o (I.bas b o q)), [ax, ay], ?_, ?_, ?_⟩
      · have hM : ∀ a, (X a ∨ a ∈ [ax, ay]) → (X a ∨ M a) := fun a q => q.imp id fun q => by
          rcases List.mem_cons.mp q with rfl | q
          · exact hMx
          · rw [List.mem_singleton.mp q]; exact hMy
        refine .tup (n := 0) (fun u => ?_) (Heap.get?_push_size _ rfl) (.own (e2 _ _ (e₁ _ _ gx)) ((rx.less hM).ext fun b o q => e2 b o (e₁ b o q)) (.own (e2 _ _ (e₁ _ _ gy)) ((ry.less hM).ext fun b o q => e2 b o (e₁ b o q)) (cs_vals ((r₁.less hM).ext e2))))
        obtain ⟨o, q⟩ := (c.ub.ext e₁) _ (hM _ u)
        exact Nat.lt_irrefl _ (Heap.lt_size q)
      · intro a ha
        rcases List.mem_cons.mp ha with rfl | ha
        · exact I.new _ hMx
        · rw [List.mem_singleton.mp ha]; exact I.new _ hMy
      · simp [hne]
set_option linter.unusedVariables false in
theorem x_brk_k (C : Fm prog w W fn A n Γ Λ env vs base) : ExP prog w A fuel Γ Λ env vs base X (.brk) := by
  intro _ m M σ s val fp o E I he
  cases he
  cases m with
  | mk => exact wpAny_bind (wpAny_standAt (wpAny_pure ⟨rfl, .refl I⟩))
set_option linter.unusedVariables false in
theorem x_raise_k (C : Fm prog w W fn A n Γ Λ env vs base) {c0 : String} {c1 : Mine.E} : ExP prog w A fuel Γ Λ env vs base X (.raise c0 c1) := by
  intro _ m
  exact m.elim
set_option linter.unusedVariables false in
theorem x_laid_k (C : Fm prog w W fn A n Γ Λ env vs base) {me : Mine.E} {fe : Mine.E} {re : Mine.E} : ExP prog w A fuel Γ Λ env vs base X (.laid me fe re) := by
  intro _ m M σ s val fp o E I he
  obtain ⟨dm, hdm, he⟩ := bind_some he
  obtain ⟨df, hdf, he⟩ := bind_some he
  obtain ⟨l, hl, he⟩ := bind_some he
  obtain ⟨dr, hdr, he⟩ := bind_some he
  obtain ⟨b, hb, rfl⟩ := Option.map_eq_some_iff.mp he
  have c := I.cx C.O C.F C.V C.hW
  cases m with
  | @mk xm xf xr p1 p2 p3 k p4 p5 p hg mm mf mr hbi =>
    obtain ⟨a, hfa, hcall⟩ := C.hΛ _ _ hl
    have hLM : M env.locals := (I.mem _).mpr (.inl (.inl rfl))
    refine wpAny_If (wpAny_isTrue_Compare1 (wpAny_mono (Q := fun v s₁ => St s s₁ ∧ KeepBut env.locals s.heap s₁.heap ∧ Rep prog w s₁.heap (fun a => X a ∨ M a) v l) ?_ (fun v s₁ h₁ => ?_) fun _ _ e => e) hbi)
    · show wpAny _ _ (do callWith p2 (← eval (.Name (Str.ofString "_law_laid") p1) env) [] (backTo p2 (starEach [xm, xf] env)) (backToKw p2 (keywordEach [] env))) _ _ s
      refine wpAny_bind (load_fn C.O c.eo c.wl hg hfa ?_)
      obtain ⟨oo, fd, ho, hd⟩ := C.O.fns c.wl hfa
      refine Calls.callWith_function (o := oo) (fd := fd) ?_
      rw [me_star mm, me_star mf]
      refine Calls.evalArgs_plain (Calls.spliced_cons (wpAny_mono (ev_ok C.O C.rm C.hΓ me mm rfl c hdm) (fun vm s₁ q₁ => Calls.spliced_cons (wpAny_mono (ev_ok C.O C.rm C.hΓ fe mf rfl (c.ext C.O q₁.ext) hdf) (fun vf s₂ q₂ => Calls.spliced_nil ?_) fun _ _ e => e)) fun _ _ e => e))
      have e2 : Ext s.heap s₂.heap := fun b o q => q₂.ext b o (q₁.ext b o q)
      refine ⟨⟨e2 _ _ ho, hd⟩, ?_⟩
      refine wpAny_mono (hcall s₂ (fun a => X a ∨ M a) [vm, vf] E ⟨base, C.hW, fun b o q => e2 b o (I.bas b o q), I.new _ hLM⟩ (.inr hLM) (let ⟨mm, nn, _⟩ := I.frv.ns; ⟨mm, nn.keeps e2⟩) (c.ub.ext e2) (.cons (q₁.rep.ext q₂.ext) (.cons q₂.rep .nil))) (fun v s₃ h₃ => ?_) fun _ _ e => e
      refine ⟨(q₁.st.trans q₂.st).trans h₃.1, ⟨fun b o nb q => h₃.2.1.1 b o nb (e2 b o q), fun o q => h₃.2.1.2 o (e2 _ o q)⟩, h₃.2.2⟩
    · obtain ⟨st₁, kb, rl⟩ := h₁
      have I₁ := I.slots C.F kb
      have c₁ := I₁.cx C.O C.F C.V C.hW
      refine wpAny_mono (brw_ok mr rfl c₁ hdr fun q => ev_ok C.O C.rm C.hΓ re mr rfl c₁ q) (fun vb s₂ h₂ => ?_) fun _ _ e => e
      obtain ⟨st₂, e₂, r₂⟩ := h₂
      refine cmp2_ok .ne C.rm.u64 (rl.b.ext e₂) r₂ hb (wpAny_truthy_bool ?_)
      have I₂ := I₁.ext e₂
      have nx : Nx prog w env vs base X M s σ s₂ := ⟨st₁.trans st₂, ⟨M, val, fp, I₂, fun _ h => .inl h⟩, fun b o nb q => e₂ b o (kb.1 b o (fun e => nb (e ▸ hLM)) q)⟩
      cases b with
      | true =>
        rw [if_pos rfl]
        refine wpAny_execs_cons (wpAny_Return_some ?_)
        exact wpAny_Constant_bool ⟨_, rfl, nx.st, I₂.bas, RX.ofVal (.bool false)⟩
      | false =>
        exact wpAny_execs_nil ⟨rfl, nx⟩
set_option linter.unusedVariables false in
theorem x_nil_k (C : Fm prog w W fn A n Γ Λ env vs base) : XsP prog w A fuel Γ Λ env vs base X (.nil) := by
  intro _ m M σ s val fp o E I he
  cases he
  cases m
  exact wpAny_execs_nil ⟨rfl, .refl I⟩
set_option linter.unusedVariables false in
theorem x_cons_k (C : Fm prog w W fn A n Γ Λ env vs base) {t : S} {ts : Ss} (iht : ExP prog w A fuel Γ Λ env vs base X t) (ihts : XsP prog w A fuel Γ Λ env vs base X ts) : XsP prog w A fuel Γ Λ env vs base X (.cons t ts) := by
  intro _ m M σ s val fp o E I he
  obtain ⟨o₁, h1, he⟩ := bind_some he
  cases m with
  | @frz x sts hz ms =>
    subst hz
    obtain ⟨σ', hσ, rfl⟩ := Option.map_eq_some_iff.mp h1
    obtain ⟨d, hd, rfl⟩ := Option.map_eq_some_iff.mp hσ
    obtain ⟨r, hr, hd⟩ := bind_some hd
    have I' := I.freeze hr hd
    have sub : ∀ a, (Fx env a ∨ ∃ i, a ∈ (if i = x then [] else fp i)) → M a := by
      rintro a (q | ⟨i, q⟩)
      · exact (I.mem a).mpr (.inl q)
      · by_cases hi : i = x
        · rw [if_pos hi] at q; cases q
        · rw [if_neg hi] at q; exact (I.mem a).mpr (.inr ⟨i, q⟩)
    refine wpAny_mono (ihts ms I' he) (fun fl s₂ out => ?_) fun _ _ e => e
    exact out.after (σ := put σ x (.val d)) ⟨.refl s, ⟨_, _, _, I', fun a ha => .inl (sub a ha)⟩, fun _ _ _ q => q⟩ fun a ha => .inl (sub a ha)
  | cons mt ms =>
    refine wpAny_execs_cons (wpAny_mono (iht mt I h1) (fun fl s₁ out => ?_) fun _ _ e => e)
    cases o₁ with
    | next σ₁ =>
      obtain ⟨rfl, nx⟩ := out
      obtain ⟨M₁, val₁, fp₁, I₁, hM₁⟩ := nx.inv
      exact wpAny_mono (ihts ms I₁ he) (fun fl s₂ out => out.after nx hM₁) fun _ _ e => e
    | brk σ₁ =>
      obtain ⟨rfl, nx⟩ := out
      cases he
      exact ⟨rfl, nx⟩
    | ret r =>
      obtain ⟨v, rfl, h3⟩ := out
      cases he
      exact ⟨v, rfl, h3⟩
    | exc c => exact out.elim
mutual
theorem exec_ok (C : Fm prog w W fn A n Γ Λ env vs base) : ∀ t : S, ExP prog w A fuel Γ Λ env vs base X t
  | .assign x e => x_assign_k C
  | .assignO x e => x_assignO_k C
  | .take x y k => x_take_k C
  | .frz x => x_frz_k C
  | .unpack xs e => x_unpack_k C
  | .setidx x i e => x_setidx_k C
  | .append x e => x_append_k C
  | .ite t a b => x_ite_k C (execs_ok C a) (execs_ok C b)
  | .for1 x it b => x_for1_k C (execs_ok C b)
  | .for2 x y it b => x_for2_k C (execs_ok C b)
  | .while t b => x_while_k C (execs_ok C b)
  | .ret e => x_ret_k C
  | .ret2 x y es => x_ret2_k C
  | .brk => x_brk_k C
  | .raise c0 c1 => x_raise_k C
  | .laid me fe re => x_laid_k C
theorem execs_ok (C : Fm prog w W fn A n Γ Λ env vs base) : ∀ t : Ss, XsP prog w A fuel Γ Λ env vs base X t
  | .nil => x_nil_k C
  | .cons t ts => x_cons_k C (exec_ok C t) (execs_ok C ts)
end
end
end Mine

set_option maxRecDepth 100000
namespace Mine
open PySem PySem.Spec PyProof.Rows

section
variable {kindOf : Str → Option NameKind}
theorem bindL_other {x : Str} : ∀ (ns : List Str) (vals : List Value) (m : Str → Option Value), x ∉ ns → bindL kindOf (ns.zip vals) m x = m x
  | [], _, m, _ => by simp [bindL]
  | n :: ns, [], m, _ => by simp [bindL]
  | n :: ns, v :: vals, m, h => by
    have h' : ¬ x = n ∧ x ∉ ns := by simpa [not_or] using h
    rw [List.zip_cons_cons, bindL, bindL_other ns vals _ h'.2]
    split
    · exact if_neg h'.1
    · rfl
theorem bindC_other {x : Str} : ∀ (ns : List Str) (vals : List Value) (m : Str → Option Value), x ∉ ns → bindC kindOf (ns.zip vals) m x = m x
  | [], _, m, _ => by simp [bindC]
  | n :: ns, [], m, _ => by simp [bindC]
  | n :: ns, v :: vals, m, h => by
    have h' : ¬ x = n ∧ x ∉ ns := by simpa [not_or] using h
    rw [List.zip_cons_cons, bindC, bindC_other ns vals _ h'.2]
    split
    · rfl
    · exact if_neg h'.1
theorem bindL_get : ∀ (ns : List Str) (vals : List Value) (m : Str → Option Value), ns.Nodup → ns.length = vals.length → ∀ (i : Nat) (x : Str), ns[i]? = some x → kindOf x = some .local → bindL kindOf (ns.zip vals) m x = vals[i]?
  | [], _, m, _, _, i, x, h, _ => by simp at h
  | n :: ns, [], m, _, hl, i, x, h, _ => by simp at hl
  | n :: ns, v :: vals, m, hn, hl, i, x, h, hk => by
    have hn' := List.nodup_cons.mp hn
    rw [List.zip_cons_cons, bindL]
    cases i with
    | zero =>
      simp at h
      subst h
      rw [bindL_other ns vals _ hn'.1, if_pos hk]
      simp
    | succ i =>
      simp at h ⊢
      exact bindL_get ns vals _ hn'.2 (by simpa using hl) i x h hk
theorem bindC_get : ∀ (ns : List Str) (vals : List Value) (m : Str → Option Value), ns.Nodup → ns.length = vals.length → ∀ (i : Nat) (x : Str), ns[i]? = some x → kindOf x = some .cell → bindC kindOf (ns.zip vals) m x = vals[i]?
  | [], _, m, _, _, i, x, h, _ => by simp at h
  | n :: ns, [], m, _, hl, i, x, h, _ => by simp at hl
  | n :: ns, v :: vals, m, hn, hl, i, x, h, hk => by
    have hn' := List.nodup_cons.mp hn
    rw [List.zip_cons_cons, bindC]
    cases i with
    | zero =>
      simp at h
      subst h
      rw [bindC_other ns vals _ hn'.1, if_neg (by rw [hk]; simp)]
      simp
    | succ i =>
      simp at h ⊢
      exact bindC_get ns vals _ hn'.2 (by simpa using hl) i x h hk
end

/-- the plain facts of a def -/
structure DefOK (vs : List Str) (k : Nat) (name : Str) (params : Arguments) (body : List Stmt) (scope : Scope) : Prop where
  nd : vs.Nodup
  kd : (vs.all fun y => scope.names.lookup y == some .local || scope.names.lookup y == some .cell) = true
  bd : ∀ pm cd doc vals, vals.length = k → bindArgs (Calls.docDef name params body scope pm cd doc) ⟨vals, []⟩ = pure ((vs.take k).zip vals)
  le : k ≤ vs.length
  co : scope.isCoroutine = false
  ge : scope.isGenerator = false
  kf : scope.kind = .function
  cn : ((cellsFrom 0 scope.names []).map (·.1)).Nodup

def IsFn (h : Heap) (a : Addr) (name : Str) (params : Arguments) (body : List Stmt) (scope : Scope) : Prop :=
  h.NoLimit ∧ ∃ o pm cd doc, h.get? a = some o ∧ o.data = .func (Calls.docDef name params body scope pm cd doc) ∧ h.CodeRec cd name


section
variable {prog : Program} {w : World} {W : Heap → Prop} {fn : String → Option Addr} {A : Around} {n fuel : Nat} {Γ : Gam} {vs : List Str} {k : Nat} {name : Str} {params : Arguments} {body : List Stmt} {scope : Scope}

theorem rd_sto0 {nv : Nat} {ds : List D} {i : Nat} {r : R} (h : rd (sto0 nv ds) i = some r) : ∃ d, ds[i]? = some d ∧ r = .val d := by
  unfold rd sto0 at h
  rw [List.getElem?_append] at h
  split at h
  · rw [List.getElem?_map] at h
    cases e : ds[i]? with
    | none => rw [e] at h; simp at h
    | some d => rw [e] at h; simp at h; exact ⟨d, rfl, h.symm⟩
  · rw [List.getElem?_replicate] at h
    split at h <;> simp at h

theorem kd_of (DF : DefOK vs k name params body scope) (N : Nat) {x : Str} (hx : x ∈ vs) : scope.names.lookup x = some .local ∨ (scope.names.lookup x = some .cell ∧ ∃ c, (cellsFrom N scope.names []).lookup x = some c) := by
  have := List.all_eq_true.mp DF.kd x hx
  rcases Bool.or_eq_true_iff.mp this with q | q
  · exact .inl (by simpa using q)
  · have q' : scope.names.lookup x = some .cell := by simpa using q
    exact .inr ⟨q', Option.isSome_iff_exists.mp (PySem.W.cellsFrom_some _ _ _ (.inl q'))⟩

/-- what stands when a def's body begins -/
theorem enter_code (DF : DefOK vs k name params body scope) {a : Addr} {ds : List D} (hk : ds.length = k) {s : Shared} {U : Addr → Prop} {vals : List Value} {R : Result → Shared → Prop}
    (hf : IsFn s.heap a name params body scope) (rm : Room A (n + 1)) (hU : UB U s.heap) (rp : Reps prog w s.heap U vals ds)
    (h : ∀ (env : Env) (M : Addr → Prop) (val : Nat → Option Value) (fp : Nat → List Addr) h₁ tk, env.scope = scope → FS env vs → EO env → (∀ o, M o → s.heap.get? o = none) →
      A.frames.map (env :: ·) = (A.deeper env).frames → env.frame = some env.locals → Room (A.deeper env) n → Inv prog w env vs s.heap U M (sto0 vs.length ds) h₁ val fp →
      wpAny (model prog w) (A.deeper env) (PySem.execs body env) (fun f s' => R (.ok (.ret (match f with | Flow.ret v => v | _ => .none))) s')
        (fun e s' => wpAny (model prog w) (A.deeper env) (leaving env e) (fun _ s'' => R (.error e) s'') (fun e' s'' => R (.error e') s'') s') { s with heap := h₁, toks := tk }) :
    codeAny (model prog w) A (.call (.ref a) ⟨vals, []⟩) R s := by
  obtain ⟨hlim, o, pm, cd, doc, ho, hdata, hcd⟩ := hf
  have hvl : vals.length = k := rp.length.trans hk
  refine (call_cells (by have := rm.dp; lia) ho hdata hlim hcd (DF.bd pm cd doc vals hvl) (fun x hx => ?_) (fun h₁ tk F X => ?_) DF.co DF.ge DF.kf)
  · have hm : x.1 ∈ vs := List.mem_of_mem_take (List.of_mem_zip hx).1
    rcases kd_of DF (s.heap.objs.size + 1) hm with q | ⟨q, c, q'⟩
    · exact .inl q
    · exact .inr ⟨q, by rw [q']; rfl⟩
  · have htl : (vs.take k).length = vals.length := by rw [List.length_take, hvl]; exact Nat.min_eq_left DF.le
    have htn : (vs.take k).Nodup := DF.nd.sublist (List.take_sublist _ _)
    have hfresh : ∀ b, s.heap.objs.size ≤ b → s.heap.get? b = none := fun b hb => by
      cases q : s.heap.get? b with
      | none => rfl
      | some o => exact absurd (Heap.lt_size q) (Nat.not_lt.mpr hb)
    have hfx : ∀ b, Fx (envOfC name scope s.heap.objs.size a cd) b → s.heap.get? b = none := by
      rintro b (rfl | ⟨n, q⟩)
      · exact hfresh _ (Nat.le_refl _)
      · exact hfresh b (Nat.le_of_lt (X.above n b q))
    have hget : ∀ i x, vs[i]? = some x → i < k → (vs.take k)[i]? = some x := fun i x e q => by rw [List.getElem?_take, if_pos q, e]
    have hout : ∀ i x, vs[i]? = some x → ¬ i < k → x ∉ vs.take k := fun i x e q m => by
      obtain ⟨j, hj⟩ := List.mem_iff_getElem?.mp m
      rw [List.getElem?_take] at hj
      split at hj
      · rename_i hjk
        exact q (nodup_idx DF.nd e hj ▸ hjk)
      · cases hj
    have hex : ∀ n c, (n, c) ∈ cellsFrom (s.heap.objs.size + 1) scope.names [] → ∃ o, h₁.get? c = some o := fun n c q => by
      obtain ⟨o, g, _⟩ := X.cell n c (lookup_of_mem_nodup (cellsFrom_names scope.names 0 (s.heap.objs.size + 1) [] [] rfl ▸ DF.cn) q)
      exact ⟨o, g⟩
    have V : FrV (envOfC name scope s.heap.objs.size a cd) vs h₁ (fun i => vals[i]?) := by
      refine ⟨⟨_, F.ns, fun i x e hk' => ?_⟩, fun i x c e hk' hc => ?_, hex⟩
      · by_cases q : i < k
        · exact bindL_get _ _ _ htn htl i x (hget i x e q) hk'
        · rw [bindL_other _ _ _ (hout i x e q), List.getElem?_eq_none (by lia)]
      · have := X.cell x c hc
        by_cases q : i < k
        · rw [bindC_get _ _ _ htn htl i x (hget i x e q) hk'] at this
          exact this
        · rw [bindC_other _ _ _ (hout i x e q)] at this
          rw [List.getElem?_eq_none (by lia)]
          exact this
    have I : Inv prog w (envOfC name scope s.heap.objs.size a cd) vs s.heap U (Fx (envOfC name scope s.heap.objs.size a cd)) (sto0 vs.length ds) h₁ (fun i => vals[i]?) (fun _ => []) := by
      refine ⟨?_, V, fun i r hr => ?_, fun _ _ => rfl, fun b => ⟨.inl, fun q => q.elim id fun ⟨_, q⟩ => by cases q⟩, fun i b q => by (cases q), fun i j b q => by (cases q), fun _ => List.nodup_nil, hfx, F.keep, fun b q => ?_⟩
      · unfold sto0; have := DF.le; simp; lia
      · obtain ⟨d, hd, rfl⟩ := rd_sto0 hr
        obtain ⟨v, hv, rv⟩ := rp.get hd
        refine ⟨v, hv, .val (rv.move (fun b o _ e _ => F.keep b o e) fun b o u e _ q => ?_)⟩
        rcases q with q | q
        · exact u q
        · rw [hfx b q] at e; cases e
      · obtain ⟨o, g⟩ := hU b q
        exact ⟨⟨o, F.keep b o g⟩, fun f => by rw [hfx b f] at g; cases g⟩
    refine wpAny_mono (h (envOfC name scope s.heap.objs.size a cd) _ _ _ h₁ tk rfl ⟨DF.kf, DF.nd, fun x hx => kd_of DF _ hx, X.apart, fun n c q e => Nat.lt_irrefl _ (e ▸ X.above n c q)⟩ ⟨DF.kf, rfl, rfl, fun x hx => Option.isSome_iff_exists.mp (PySem.W.cellsFrom_some _ _ _ (.inl hx))⟩ hfx rfl rfl ⟨rm.hd, by have := rm.dp; show A.depth + 1 + n < _; lia, by have := rm.un; show A.units + 3 + 4 * n + 80 < _; lia⟩ I) (fun _ _ x => x) fun _ _ x => x

theorem enter_ok (O₁ : WOK W fn) (DF : DefOK vs k name params body scope) {a : Addr} {ds : List D} (hk : ds.length = k) {s : Shared} {U : Addr → Prop} {vals : List Value} {E : Value → Shared → Prop} {Q : Value → Shared → Prop}
    (hf : IsFn s.heap a name params body scope) (rm : Room A (n + 1)) (hW₁ : W s.heap) (hU : UB U s.heap) (rp : Reps prog w s.heap U vals ds)
    (h : ∀ (env : Env) (M : Addr → Prop) (val : Nat → Option Value) (fp : Nat → List Addr) h₁ tk, env.scope = scope → FS env vs → EO env → (∀ o, M o → s.heap.get? o = none) →
      A.frames.map (env :: ·) = (A.deeper env).frames → env.frame = some env.locals → Room (A.deeper env) n → Inv prog w env vs s.heap U M (sto0 vs.length ds) h₁ val fp →
      wpAny (model prog w) (A.deeper env) (PySem.execs body env) (fun f s' => Q (match f with | Flow.ret v => v | _ => .none) s')
        (fun e s' => wpAny (model prog w) (A.deeper env) (leaving env e) (fun _ s'' => E e s'') (fun e' s'' => E e' s'') s') { s with heap := h₁, toks := tk }) :
    wpAny (model prog w) A (call (.ref a) vals) Q E s := wpAny_call (enter_code DF hk hf rm hU rp h)

theorem fun_ok (O : WOK W fn) (DF : DefOK vs k name params body scope) {f : String} {a : Addr} (ha : fn f = some a) (hF : ∀ h, W h → IsFn h a name params body scope) {b : Ss} (hm : MSs scope vs b body)
    (hΓ : ∀ f ds r, Γ f ds = some r → FunOK prog w W fn n f ds r) {ds : List D} (hk : ds.length = k) {r : R} (hr : run Γ (fun _ => none) fuel b vs.length ds = some r) : FunOK prog w W fn (n + 1) f ds r := by
  refine ⟨a, ha, fun A s U vals E rm hW hU rp => ?_⟩
  refine enter_ok O DF hk (hF _ hW) rm hW hU rp fun env M val fp h₁ tk hsc F V _ _ _ rm' I => ?_
  obtain ⟨o, ho, hr⟩ := bind_some hr
  subst hsc
  refine wpAny_mono (execs_ok (s := { s with heap := h₁, toks := tk }) ⟨O, rm', hΓ, F, V, hW, fun _ _ h => by cases h⟩ b hm I ho) (fun fl s' out => ?_) fun _ _ x => x
  cases o with
  | ret r' =>
    cases hr
    obtain ⟨v, rfl, st, ex, rx⟩ := out
    exact ⟨St.trans ⟨h₁, tk, rfl⟩ st, ex, rx⟩
  | next σ =>
    cases hr
    obtain ⟨rfl, nx⟩ := out
    obtain ⟨M', val', fp', I', _⟩ := nx.inv
    exact ⟨St.trans ⟨h₁, tk, rfl⟩ nx.st, I'.bas, RX.ofVal .non⟩
  | brk _ => cases hr
  | exc _ => cases hr
end
end Mine

set_option maxRecDepth 100000
namespace Mine
open PySem PySem.Spec PyProof.Rows PySem.W

def oomBases : List Value := [.type "Exception", .type "BaseException", .type "object"]
structure OomOK (W : Heap → Prop) (C : Addr) : Prop where
  cls : ∀ {h}, W h → ∃ mg, h.Ns mainGlobals mg ∧ OwnCls (Str.ofString "OutOfMemory") C oomBases "Exception.__new__" mg h

def AR.cls (C : Addr) : AR → Option Value
  | .ret _ => none
  | .val => some (.type "ValueError")
  | .oom => some (.ref C)

def FrOK (h : Heap) (l : List Env) : Prop := ∀ env ∈ l, env.scope.kind ≠ .module ∧ ∃ L o, env.frame = some L ∧ h.get? L = some o ∧ ∀ vs, o.data ≠ .fields vs
theorem FrOK.fun {h : Heap} {as : List Addr} : ∀ {l : List Env}, FrOK h l → (∀ env ∈ l, ∀ a, env.frame = some a → a ∈ as) → h.FunFrames (hideAll h as) l
  | [], _, _ => trivial
  | env :: _, H, hin => by
    obtain ⟨hk, L, o, hf, ho, hd⟩ := H env (.head _)
    exact ⟨hk, ⟨L, o, hf, hideAll_none _ (hin env (.head _) L hf), ho, hd⟩, FrOK.fun (fun e he => H e (.tail _ he)) fun e he => hin e (.tail _ he)⟩
theorem FrOK.ext {h h' : Heap} {l : List Env} (H : FrOK h l) (e : Ext h h') : FrOK h' l := fun env he =>
  let ⟨hk, L, o, hf, ho, hd⟩ := H env he; ⟨hk, L, o, hf, e _ _ ho, hd⟩
theorem ns_frok {h : Heap} {env : Env} {m : Str → Option Value} (hk : env.scope.kind = .function) (hf : env.frame = some env.locals) (hn : h.Ns env.locals m) : env.scope.kind ≠ .module ∧ ∃ L o, env.frame = some L ∧ h.get? L = some o ∧ ∀ vs, o.data ≠ .fields vs := by
  obtain ⟨o, es, ep, ho, hd, r⟩ := hn
  exact ⟨by rw [hk]; simp, _, o, hf, ho, fun vs q => by rw [hd] at q; cases q⟩

section
variable {prog : Program} {w : World} {W : Heap → Prop} {fn : String → Option Addr} {A : Around} {n fuel : Nat} {Γ : Gam} {C : Addr}

theorem load_own (QO : OomOK W C) {env : Env} {s : Shared} {E : Value → Shared → Prop} {p : Pos} {Q : Value → Shared → Prop} (V : EO env) (hW : W s.heap) (g : gl env.scope "OutOfMemory") (h : Q (.ref C) s) : wpAny (model prog w) A (eval (.Name (Str.ofString "OutOfMemory") p) env) Q E s := by
  obtain ⟨mg, h1, O⟩ := QO.cls hW
  exact Calls.Name_function_global V.kf g.1 (Calls.loadGlobal_global (V.gl ▸ h1) O.bound h) g.2

/-- an exception of a frame's own leaves it -/
theorem leave_made {outer : List Env} {env : Env} {vs : List Str} {U M : Addr → Prop} {σ : Sto} {val : Nat → Option Value} {fp : Nat → List Addr} {s s₁ : Shared} {h'' : Heap} {e : Addr} {cls : Value} {args : List Value} {Q : Unit → Shared → Prop} {E : Value → Shared → Prop}
    (hA : A.frames = some outer) (HF : FrOK s.heap outer) (hfr : A.frames.map (env :: ·) = (A.deeper env).frames) (hfm : env.frame = some env.locals) (hkf : env.scope.kind = .function)
    (I : Inv prog w env vs s.heap U M σ s₁.heap val fp) (st : St s s₁) (hx : Heap.MadeExcOf s₁.heap h'' e cls args)
    (hE : ∀ t B h' tk, (∀ b o, s.heap.get? b = some o → (∀ env ∈ outer, env.frame ≠ some b) → B.get? b = some o) → Heap.FlyingW B outer e cls (.ref t) h' → s.heap.UpToSlots h' → Q () { s with heap := h', toks := tk }) :
    wpAny (model prog w) (A.deeper env) (leaving env (.ref e)) Q E { s₁ with heap := h'' } := by
  obtain ⟨m, hn, _⟩ := I.frv.ns
  have H : FrOK s₁.heap (env :: outer) := fun e he => by
    rcases List.mem_cons.mp he with rfl | he
    · exact ns_frok hkf hfm hn
    · exact HF.ext I.bas e he
  obtain ⟨h₁, tk, rfl⟩ := st
  refine wpAny_leaves_madeW (base := hideAll h₁ ((env :: outer).filterMap (·.frame))) (h := h₁) (by rw [← hfr, hA]; rfl) hfm (fun b o q => of_hideAll _ q) (H.fun fun e he a ha => List.mem_filterMap.mpr ⟨e, he, ha⟩) hx fun h' t x1 x2 x3 x4 => ?_
  refine hE t _ h' tk (fun b o q hb => hideAll_get _ (I.bas b o q) fun hm => ?_) x1 (((Heap.UpToSlots.of_keeps I.bas).trans (Heap.UpToSlots.of_keeps hx.keeps)).trans x4)
  obtain ⟨e', he', hf'⟩ := List.mem_filterMap.mp hm
  rcases List.mem_cons.mp he' with rfl | he'
  · rw [hfm] at hf'
    cases hf'
    rw [I.new _ ((I.mem _).mpr (.inl (.inl rfl)))] at q
    cases q
  · exact hb e' he' hf'

theorem alloc_ok (O : WOK W fn) (QO : OomOK W C) (hΓ : ∀ f ds r, Γ f ds = some r → FunOK prog w W fn n f ds r) {a : Addr} {name : Str} {params : Arguments} {body : List Stmt} {scope : Scope} (hF : ∀ h, W h → IsFn h a name params body scope)
    (DF : DefOK vs_allocate 2 name params body scope) {st0 st2 st3 : Stmt} {xt xe : Expr} {np cp rp kp p np' cp' rp' : Pos} {k : Nat}
    (hbody : body = [st0, .If xt [.Raise (some (.Call (.Name (Str.ofString "ValueError") np) [.Constant (.str (Str.ofString "the memory is not tiled by blocks")) k kp] [] cp)) none rp] [] p, st2, st3, .Raise (some (.Call (.Name (Str.ofString "OutOfMemory") np') [xe] [] cp')) none rp'])
    (m0 : MS scope vs_allocate a_alloc0 st0) (mt : MT scope vs_allocate (.cmp .isnone (.var 2) .non) xt) (m2 : MS scope vs_allocate a_alloc2 st2) (m3 : MS scope vs_allocate a_alloc3 st3) (me : ME scope vs_allocate e_alloc xe) (g1 : gl scope "ValueError") (g2 : gl scope "OutOfMemory")
    {outer : List Env} {s : Shared} {U : Addr → Prop} {vals : List Value} {dm df : D} {E : Value → Shared → Prop} {Q : Value → Shared → Prop} (hA : A.frames = some outer) (HF : FrOK s.heap outer) (rm : Room A (n + 1)) (hW : W s.heap) (hU : UB U s.heap) (rp' : Reps prog w s.heap U vals [dm, df])
    {res : AR} (hres : allocM Γ fuel dm df = some res)
    (hQ : ∀ d v s', res = .ret d → St s s' → Ext s.heap s'.heap → Rep prog w s'.heap U v d → Q v s')
    (hE : ∀ cls e t B h' tk, res.cls C = some cls → (∀ b o, s.heap.get? b = some o → (∀ env ∈ outer, env.frame ≠ some b) → B.get? b = some o) → Heap.FlyingW B outer e cls (.ref t) h' → s.heap.UpToSlots h' → E (.ref e) { s with heap := h', toks := tk }) :
    wpAny (model prog w) A (call (.ref a) vals) Q E s := by
  refine enter_ok O DF rfl (hF _ hW) rm hW hU rp' fun env M val fp h₁ tk hsc F V hM hfr hfm rm' I => ?_
  subst hsc
  have Cm : Fm prog w W fn (A.deeper env) n Γ (fun _ => none) env vs_allocate s.heap := ⟨O, rm', hΓ, F, V, hW, fun _ _ h => by cases h⟩
  rw [hbody]
  unfold allocM at hres
  obtain ⟨o0, ho0, hres⟩ := bind_some hres
  refine wpAny_execs_cons (wpAny_mono (exec_ok (s := { s with heap := h₁, toks := tk }) Cm _ m0 I ho0) (fun fl s₁ out => ?_) fun _ _ e => e)
  cases o0 with
  | next σ1 =>
    obtain ⟨rfl, nx⟩ := out
    obtain ⟨M₁, val₁, fp₁, I₁, hM₁⟩ := nx.inv
    have st₁ : St s s₁ := St.trans ⟨h₁, tk, rfl⟩ nx.st
    simp only at hres
    obtain ⟨c, hc, hres⟩ := bind_some hres
    refine wpAny_execs_cons (wpAny_If (wpAny_mono (evT_ok O rm' hΓ _ mt rfl (I₁.cx O F V hW) hc) (fun b s₂ h₂ => ?_) fun _ _ e => e))
    obtain ⟨st₂, e₂, rfl⟩ := h₂
    have I₂ := I₁.ext e₂
    cases b with
    | true =>
      rw [if_pos rfl] at hres ⊢
      cases hres
      refine wpAny_execs_cons (wpAny_Raise_call PySem.F.excCall_ValueError PySem.F.excRaise_ValueError rm'.hd rfl (load_bi O V (O.ext hW I₂.bas) g1 rfl ⟨rfl, ?_⟩))
      refine Calls.evalArgs_plain (Calls.spliced_cons (Calls.Constant_str (k := k) (pos := kp) (Calls.spliced_nil ⟨rfl, by rw [sizeLine_eq]; simp, fun h' e hx => ?_⟩)))
      have I₃ : Inv prog w env vs_allocate s.heap U M₁ σ1 ({ s₂ with toks := s₂.toks + 1 } : Shared).heap val₁ fp₁ := I₂
      exact leave_made hA HF hfr hfm F.kf I₃ ((st₁.trans st₂).trans ⟨_, _, rfl⟩) hx.of fun t B h' tk hB fl us => hE _ e t B h' tk rfl hB fl us
    | false =>
      rw [if_neg (by simp)] at hres ⊢
      refine wpAny_execs_nil ?_
      obtain ⟨o2, ho2, hres⟩ := bind_some hres
      refine wpAny_execs_cons (wpAny_mono (exec_ok Cm _ m2 I₂ ho2) (fun fl s₃ out => ?_) fun _ _ e => e)
      cases o2 with
      | next σ2 =>
        obtain ⟨rfl, nx₃⟩ := out
        obtain ⟨M₃, val₃, fp₃, I₃, hM₃⟩ := nx₃.inv
        simp only at hres
        obtain ⟨o3, ho3, hres⟩ := bind_some hres
        refine wpAny_execs_cons (wpAny_mono (exec_ok Cm _ m3 I₃ ho3) (fun fl s₄ out => ?_) fun _ _ e => e)
        cases o3 with
        | next σ3 =>
          obtain ⟨rfl, nx₄⟩ := out
          obtain ⟨M₄, val₄, fp₄, I₄, hM₄⟩ := nx₄.inv
          simp only at hres
          obtain ⟨de, hde, rfl⟩ := Option.map_eq_some_iff.mp hres
          obtain ⟨mg, hg, OC⟩ := QO.cls (O.ext hW I₄.bas)
          obtain ⟨tl, N, nm, q, bs, hdct, sn, sub, ab, col, dd, k0, k1, k2, k3, k5, mN, hC, hN, hni, T⟩ := OC.obj
          refine wpAny_execs_cons (wpAny_Raise_call_subT (C := C) (nm := nm) (q := q) (N := N) (bs := bs) (bm := tl) (hdct := hdct) (sn := sn) (sub := sub) (ab := ab) (col := col) (dd := dd) (k0 := k0) (k1 := k1) (k2 := k2) (k3 := k3) (k5 := k5)
            PySem.F.excBase_Exception (mN := mN) (T.hasType (by decide)) rm'.hd (by rw [me_star me [] env]; rfl) hni (load_own QO V (O.ext hW I₄.bas) g2 ⟨rfl, ?_⟩))
          rw [me_star me [] env]
          refine Calls.evalArgs_plain (Calls.spliced_cons (wpAny_mono (ev_ok O rm' hΓ _ me rfl (I₄.cx O F V hW) hde) (fun ve s₅ p₅ => Calls.spliced_nil ?_) fun _ _ e => e))
          refine ⟨rfl, by rw [sizeLine_eq]; simp, p₅.ext _ _ hC, hN.keeps p₅.ext, T.keeps p₅.ext, fun h' e hx => ?_⟩
          exact leave_made hA HF hfr hfm F.kf (I₄.ext p₅.ext) ((((st₁.trans st₂).trans nx₃.st).trans nx₄.st).trans p₅.st) hx fun t B h' tk hB fl us => hE _ e t B h' tk rfl hB fl us
        | ret r =>
          obtain ⟨v, rfl, st₄, ex₄, rx⟩ := out
          simp only at hres
          obtain ⟨d, hd, rfl⟩ := Option.map_eq_some_iff.mp hres
          exact hQ d v s₄ rfl (((st₁.trans st₂).trans nx₃.st).trans st₄) ex₄ (rx.toD hU hd)
        | brk _ => cases hres
        | exc _ => cases hres
      | ret r => cases hres
      | brk _ => cases hres
      | exc _ => cases hres
  | ret r => cases hres
  | brk _ => cases hres
  | exc _ => cases hres
end
end Mine

set_option maxRecDepth 100000
namespace Mine
open PySem PySem.Spec PyProof.Rows PySem.W

def vs_law_laid : List Str := [Str.ofString "mem", Str.ofString "fields", Str.ofString "got"]

section
variable {prog : Program} {w : World} {A : Around} {E : Value → Shared → Prop}
/-- an exception of a built-in class is none of a class of the program's own -/
theorem excMatches_other {nm q : Str} {C N : Addr} {bs bm : List Value} {hdct : Bool} {sn : List Str} {sub : List Value} {ab : Bool} {col : Option Bool} {dd : Option Addr} {k0 k1 k2 k3 k5 : Option Value} {newId : String}
    {M : Model} {h : Heap} {g : Array GenState} {d : Drawn} {t : Nat} {os : OsState} {e : Addr} {oe : Obj} {Q : Bool → Shared → Prop}
    (hC : h.get? C = some (excClassObj nm q C N bs bm hdct sn sub ab col dd k0 k1 k2 k3 k5 newId)) (he : h.get? e = some oe) (hcls : oe.cls = .type "ValueError") (hbase : bm.contains (.type "BaseException") = true)
    (hq : Q false ⟨h, g, d, t, os⟩) : wpAny M A (excMatches (.ref e) (.ref C)) Q E ⟨h, g, d, t, os⟩ := by
  have hcB : (Value.ref C :: bm).contains (.type "BaseException") = true := by rw [List.contains_cons, hbase, Bool.or_true]
  have f := tc_notTuple
  have hs : isSubtype (.type "ValueError") (.ref C) = pure false := by
    rw [isSubtype_type]
    rfl
  unfold excMatches
  repeat (first | (with_reducible refine wpAny_loadPart_at he ?_; rw [hcls]) | with_reducible refine wpAny_loadPart_at hC ?_ | (with_reducible refine wpAny_isSubtype_exc hC ?_; rw [hcB]) | rw [hs] | wp_step)
  exact hq

theorem Inv.rebase {env : Env} {vars : List Str} {base base₂ h h₁ : Heap} {X M : Addr → Prop} {σ : Sto} {val : Nat → Option Value} {fp : Nat → List Addr} (I : Inv prog w env vars base X M σ h val fp) (F : FS env vars) {L₀ : Addr} (hX : X L₀)
    (k : ∀ b o, b ≠ env.locals → b ≠ L₀ → h.get? b = some o → (Dat o ∨ Fx env b ∨ X b) → ∃ o', h₁.get? b = some o' ∧ (Dat o ∨ Fx env b → o' = o)) (kL : ∀ o, h.get? env.locals = some o → ∃ sl, h₁.get? env.locals = some { o with slots := sl }) (kX : ∃ o', h₁.get? L₀ = some o')
    (eb : Ext base₂ h₁) (hn : ∀ a, M a → base₂.get? a = none) : Inv prog w env vars base₂ X M σ h₁ val fp := by
  have hL : M env.locals := (I.mem _).mpr (.inl (.inl rfl))
  have hM0 : ¬ M L₀ := (I.old _ hX).2
  have kd : ∀ b o, b ≠ env.locals → b ≠ L₀ → h.get? b = some o → (Dat o ∨ Fx env b) → h₁.get? b = some o := fun b o n1 n2 g q => by
    obtain ⟨o', g', e'⟩ := k b o n1 n2 g (q.imp id .inl)
    rw [g', e' q]
  refine ⟨I.len, ⟨?_, fun i x c p q r => ?_, fun n c q => ?_⟩, fun i r q => ?_, I.non, I.mem, I.off, I.one, I.nod, hn, eb, fun a q => ⟨?_, (I.old a q).2⟩⟩
  · obtain ⟨m, ⟨o, es, ep, ho, r'⟩, r⟩ := I.frv.ns
    obtain ⟨sl, hs⟩ := kL o ho
    exact ⟨m, ⟨_, es, ep, hs, r'⟩, r⟩
  · obtain ⟨o, ho, hd⟩ := I.frv.cl i x c p q r
    have fx : Fx env c := .inr ⟨x, mem_of_lookup r⟩
    exact ⟨o, kd c o (F.loc x c (mem_of_lookup r)) (fun e => hM0 (e ▸ (I.mem _).mpr (.inl fx))) ho (.inr fx), hd⟩
  · obtain ⟨o, g⟩ := I.frv.ex n c q
    have fx : Fx env c := .inr ⟨n, q⟩
    exact ⟨o, kd c o (F.loc n c q) (fun e => hM0 (e ▸ (I.mem _).mpr (.inl fx))) g (.inr fx)⟩
  · obtain ⟨v, a, b⟩ := I.rep i r q
    refine ⟨v, a, b.move (fun a o u g d => kd a o (fun e => u (.inr (e ▸ hL))) (fun e => u (.inl (e ▸ hX))) g (.inl d)) (fun _ _ u _ _ => u) fun a ha o g => ?_⟩
    obtain ⟨o', g', d⟩ := b.here a ha
    rw [g] at g'
    cases g'
    exact kd a o (fun e => I.off i a ha (.inl e)) (fun e => hM0 (e ▸ (I.mem _).mpr (.inr ⟨i, ha⟩))) g (.inl d)
  · by_cases e : a = L₀
    · exact e ▸ kX
    · obtain ⟨o, g⟩ := (I.old a q).1
      obtain ⟨o', g', _⟩ := k a o (fun e => (I.old a q).2 (e ▸ hL)) e g (.inr (.inr q))
      exact ⟨o', g'⟩
end

section
variable {prog : Program} {w : World} {W : Heap → Prop} {fn : String → Option Addr} {A : Around} {n fuel : Nat} {Γ : Gam} {C : Addr}

def AllocOK (prog : Program) (w : World) (W : Heap → Prop) (fn : String → Option Addr) (C : Addr) (n : Nat) (Γ : Gam) (fuel : Nat) : Prop :=
  ∃ a, fn "allocate" = some a ∧ ∀ {A : Around} {outer : List Env} {s : Shared} {U : Addr → Prop} {vals : List Value} {dm df : D} {E : Value → Shared → Prop} {Q : Value → Shared → Prop}, A.frames = some outer → FrOK s.heap outer → Room A (n + 1) → W s.heap → UB U s.heap → Reps prog w s.heap U vals [dm, df] →
    ∀ {res : AR}, allocM Γ fuel dm df = some res →
    (∀ d v s', res = .ret d → St s s' → Ext s.heap s'.heap → Rep prog w s'.heap U v d → Q v s') →
    (∀ cls e t B h' tk, res.cls C = some cls → (∀ b o, s.heap.get? b = some o → (∀ env ∈ outer, env.frame ≠ some b) → B.get? b = some o) → Heap.FlyingW B outer e cls (.ref t) h' → s.heap.UpToSlots h' → E (.ref e) { s with heap := h', toks := tk }) →
    wpAny (model prog w) A (call (.ref a) vals) Q E s

theorem RS.valNil {h : Heap} {U : Addr → Prop} {v : Value} {r : R} {d : D} {l : List Addr} (x : RS prog w h U v r l) (e : r = .val d) : l = [] := by
  cases x with
  | val _ => rfl
  | own _ _ => cases e
  | tup _ _ _ => cases e

/-- got = a word; return got -/
theorem laid_fin (O : WOK W fn) (hΓ : ∀ f ds r, Γ f ds = some r → FunOK prog w W fn n f ds r) {env : Env} {base₂ : Heap} {U M : Addr → Prop} {σ : Sto} {val : Nat → Option Value} {fp : Nat → List Addr} {s : Shared} {st2 : Stmt} {l : D} {E : Value → Shared → Prop} {Q : Value → Shared → Prop}
    (F : FS env vs_law_laid) (V : EO env) (rm : Room A n) (hW : W base₂) (m2 : MS env.scope vs_law_laid (.ret (.var 2)) st2) (I : Inv prog w env vs_law_laid base₂ U M σ s.heap val fp) (hl : rd σ 2 = some (.val l))
    (hQ : ∀ v s', St s s' → Ext base₂ s'.heap → Rep prog w s'.heap U v l → Q v s') :
    wpAny (model prog w) A (PySem.execs [st2] env) (fun f s' => Q (match f with | Flow.ret v => v | _ => .none) s') E s := by
  have he : exec Γ (fun _ => none) 0 (.ret (.var 2)) σ = some (.ret (.val l)) := by
    have h2 : rdB σ 2 = some l := by
      show (match rd σ 2 with | some (.val d) => some d | some (.own xs) => some (.lst xs) | _ => none) = _
      rw [hl]
    show (rdB σ 2).map (fun d => Mine.O.ret (.val d)) = _
    rw [h2]
    rfl
  refine wpAny_execs_cons (wpAny_mono (exec_ok ⟨O, rm, hΓ, F, V, hW, fun _ _ h => by cases h⟩ _ m2 I he) (fun fl s₁ out => ?_) fun _ _ e => e)
  obtain ⟨v, rfl, st, ex, fnn, rs, fr, nd⟩ := out
  cases rs with
  | val r => exact hQ v s₁ st ex (r.less fun _ q => .inl q)

theorem laid_ok (O : WOK W fn) (QO : OomOK W C) (hΓ : ∀ f ds r, Γ f ds = some r → FunOK prog w W fn n f ds r) (AK : AllocOK prog w W fn C n Γ fuel) {a1 : Addr} {name : Str} {params : Arguments} {body : List Stmt} {scope : Scope}
    (hfa : fn "_law_laid" = some a1) (hF : ∀ h, W h → IsFn h a1 name params body scope) (DF : DefOK vs_law_laid 2 name params body scope) {st0 st2 : Stmt} {p1 p2 p3 p4 p5 p6 p7 q1 q2 q3 q4 q5 t1 t2 t3 t4 t5 : Pos} {k k' : Nat}
    (hbody : body = [st0, .Try [.Assign [.Name (Str.ofString "got") p1] (.Call (.Name (Str.ofString "allocate") p2) [.Name (Str.ofString "mem") p3, .Name (Str.ofString "fields") p4] [] p5) p6]
      [.ExceptHandler (some (.Name (Str.ofString "OutOfMemory") q1)) none [.Assign [.Name (Str.ofString "got") q2] (.Constant (.str (Str.ofString "oom")) k q3) q4] q5, .ExceptHandler (some (.Name (Str.ofString "ValueError") t1)) none [.Assign [.Name (Str.ofString "got") t2] (.Constant (.str (Str.ofString "untiled")) k' t3) t4] t5] [] [] p7, st2])
    (m0 : MS scope vs_law_laid (.assign 2 .non) st0) (mm : ME scope vs_law_laid (.var 0) (.Name (Str.ofString "mem") p3)) (mf : ME scope vs_law_laid (.var 1) (.Name (Str.ofString "fields") p4)) (m2 : MS scope vs_law_laid (.ret (.var 2)) st2)
    (g0 : gl scope "allocate") (g1 : gl scope "OutOfMemory") (g2 : gl scope "ValueError") {env0 : Env} (hA : A.frames = some [env0]) (hf0 : env0.frame = some env0.locals) (hk0 : env0.scope.kind = .function) (rm : Room A (n + 2))
    {dm df : D} {res : AR} (hres : allocM Γ fuel dm df = some res) : LaidOK prog w W fn A env0 [dm, df] res.toD := by
  refine ⟨a1, hfa, fun s U vals E hb hUL hns0 hU rp => ?_⟩
  obtain ⟨base, hWb, eb, hb0⟩ := hb
  obtain ⟨m00, hns0⟩ := hns0
  have hW : W s.heap := O.ext hWb eb
  refine enter_ok O DF rfl (hF _ hW) rm hW hU rp fun env M val fp h₁ tk hsc F V hM hfr hfm rm' I => ?_
  subst hsc
  rw [hbody]
  have Cm : Fm prog w W fn (A.deeper env) n Γ (fun _ => none) env vs_law_laid s.heap := ⟨O, rm'.less (Nat.le_succ n), hΓ, F, V, hW, fun _ _ h => by cases h⟩
  have he0 : exec Γ (fun _ => none) fuel (.assign 2 .non) (sto0 vs_law_laid.length [dm, df]) = some (.next [some (.val dm), some (.val df), some (.val .non)]) := rfl
  refine wpAny_execs_cons (wpAny_mono (exec_ok (s := { s with heap := h₁, toks := tk }) Cm _ m0 I he0) (fun fl s₁ out => ?_) fun _ _ e => e)
  obtain ⟨rfl, nx⟩ := out
  obtain ⟨M₁, val₁, fp₁, I₁, hM₁⟩ := nx.inv
  have st₁ : St s s₁ := St.trans ⟨h₁, tk, rfl⟩ nx.st
  have c₁ := I₁.cx O F V hW
  have hUM : ∀ a, U a → ¬ M₁ a := fun a q => (I₁.old a q).2
  obtain ⟨aa, hfaa, AK⟩ := AK
  refine wpAny_execs_cons (wpAny_Try_except (wpAny_execs_cons (wpAny_Assign_Name ?_)))
  show wpAny _ _ (do callWith p5 (← eval (.Name (Str.ofString "allocate") p2) env) [] (backTo p5 (starEach [.Name (Str.ofString "mem") p3, .Name (Str.ofString "fields") p4] env)) (backToKw p5 (keywordEach [] env))) _ _ s₁
  refine wpAny_bind (load_fn O V c₁.wl g0 hfaa ?_)
  obtain ⟨oo, fd, ho, hd⟩ := O.fns c₁.wl hfaa
  refine Calls.callWith_function (o := oo) (fd := fd) ?_
  rw [me_star mm, me_star mf]
  have hem : ev Γ (.var 0) [some (.val dm), some (.val df), some (.val .non)] = some dm := rfl
  have hef : ev Γ (.var 1) [some (.val dm), some (.val df), some (.val .non)] = some df := rfl
  refine Calls.evalArgs_plain (Calls.spliced_cons (wpAny_mono (ev_ok O Cm.rm hΓ _ mm rfl c₁ hem) (fun vm s₂ q₂ => Calls.spliced_cons (wpAny_mono (ev_ok O Cm.rm hΓ _ mf rfl (c₁.ext O q₂.ext) hef) (fun vf s₃ q₃ => Calls.spliced_nil ?_) fun _ _ e => e)) fun _ _ e => e))
  have e3 : Ext s₁.heap s₃.heap := fun b o q => q₃.ext b o (q₂.ext b o q)
  have I₃ := I₁.ext e3
  have st₃ : St s s₃ := (st₁.trans q₂.st).trans q₃.st
  refine ⟨⟨e3 _ _ ho, hd⟩, ?_⟩
  have fr0 : FrOK s₃.heap [env, env0] := by
    intro e he
    rcases List.mem_cons.mp he with rfl | he
    · obtain ⟨mm, nn, _⟩ := I₃.frv.ns
      exact ns_frok V.kf hfm nn
    · rw [List.mem_singleton.mp he]
      exact ns_frok hk0 hf0 (hns0.keeps I₃.bas)
  have hL1 : s.heap.get? env.locals = none := I₁.new _ ((I₁.mem _).mpr (.inl (.inl rfl)))
  have hne : env0.locals ≠ env.locals := fun e => by
    obtain ⟨o, _, _, q, _⟩ := hns0
    rw [e, hL1] at q; cases q
  refine AK (outer := [env, env0]) (by rw [← hfr, hA]; rfl) fr0 rm' (O.ext hW I₃.bas) (c₁.ub.ext e3) (.cons (q₂.rep.ext q₃.ext) (.cons q₃.rep .nil)) hres ?_ ?_
  · intro d v s₄ hrd st₄ e₄ rv
    subst hrd
    refine st_ok (x := 2) F I₃ rfl st₄ e₄ (RX.ofVal rv) fun s₅ nx₅ => wpAny_execs_nil (wpAny_execs_nil ?_)
    obtain ⟨M₅, val₅, fp₅, I₅, hM₅⟩ := nx₅.inv
    refine laid_fin (Q := fun v s' => St s s' ∧ KeepBut env0.locals s.heap s'.heap ∧ Rep prog w s'.heap U v d) O hΓ F V Cm.rm hW m2 I₅ (l := d) rfl fun v' s' st' ex' rv' => ?_
    exact ⟨((st₃.trans nx₅.st).trans st'), ⟨fun b o _ q => ex' b o q, fun o q => ⟨o.slots, ex' _ o q⟩⟩, rv'⟩
  · intro cls e t B h' tk' hcls hB hfl us
    have hfp : ∀ i, fp₁ i = [] := fun i => by
      cases hr : rd [some (R.val dm), some (R.val df), some (R.val .non)] i with
      | none => exact I₁.non i hr
      | some r =>
        obtain ⟨v, _, rs⟩ := I₁.rep i r hr
        have hv : ∃ d, r = .val d := by
          match i, hr with
          | 0, hr => exact ⟨dm, by cases hr; rfl⟩
          | 1, hr => exact ⟨df, by cases hr; rfl⟩
          | 2, hr => exact ⟨.non, by cases hr; rfl⟩
          | i + 3, hr => simp [rd] at hr
        obtain ⟨d, rfl⟩ := hv
        exact rs.valNil rfl
    have hM1 : ∀ b, M₁ b → b ∈ env.locals :: env.cells.map (·.2) := fun b hb => by
      rcases (I₁.mem b).mp hb with (rfl | ⟨nn, q⟩) | ⟨i, q⟩
      · exact .head _
      · exact .tail _ (List.mem_map.mpr ⟨_, q, rfl⟩)
      · rw [hfp] at q; cases q
    have hfx : ∀ b, b ∈ env.locals :: env.cells.map (·.2) → s.heap.get? b = none := fun b hb => by
      refine I₁.new b ((I₁.mem b).mpr (.inl ?_))
      rcases List.mem_cons.mp hb with rfl | hb
      · exact .inl rfl
      · obtain ⟨⟨nn, cc⟩, q, rfl⟩ := List.mem_map.mp hb
        exact .inr ⟨nn, q⟩
    have keep : ∀ b o, s₃.heap.get? b = some o → b ≠ env.locals → b ≠ env0.locals → B.get? b = some o := fun b o q n1 n2 => hB b o q fun e' he' hf' => by
      rcases List.mem_cons.mp he' with rfl | he'
      · rw [hfm] at hf'; cases hf'; exact n1 rfl
      · rw [List.mem_singleton.mp he', hf0] at hf'; cases hf'; exact n2 rfl
    have hbB : Ext base B := fun b o q => keep b o (I₃.bas b o (eb b o q)) (fun e => by rw [e] at q; have := eb _ o q; rw [hL1] at this; cases this) fun e => by rw [e, hb0] at q; cases q
    have tail : ∀ (A' : Around) (E' : Value → Shared → Prop) (l : Str) (kk : Nat) (r2 r3 r4 : Pos) (h₆ : Heap), Heap.FlyingW B [env, env0] e cls (.ref t) h₆ → s₃.heap.UpToSlots h₆ → res.toD = .str l →
        wpAny (model prog w) A' (PySem.execs [.Assign [.Name (Str.ofString "got") r2] (.Constant (.str l) kk r3) r4] env)
          (fun f s' => match f with
            | .next => wpAny (model prog w) (A.deeper env) (PySem.execs [st2] env) (fun f s' => (fun v s' => St s s' ∧ KeepBut env0.locals s.heap s'.heap ∧ Rep prog w s'.heap U v res.toD) (match f with | Flow.ret v => v | _ => .none) s')
                (fun e s' => wpAny (model prog w) (A.deeper env) (leaving env e) (fun _ s'' => E e s'') (fun e' s'' => E e' s'') s') s'
            | f => (fun v s' => St s s' ∧ KeepBut env0.locals s.heap s'.heap ∧ Rep prog w s'.heap U v res.toD) (match f with | Flow.ret v => v | _ => .none) s') E' { s₃ with heap := h₆, toks := tk' } := by
      intro A' E' l kk r2 r3 r4 h₆ hfl₆ us₆ hres'
      have I₆ : Inv prog w env vs_law_laid (hideAll h₆ (env.locals :: env.cells.map (·.2))) U M₁ [some (.val dm), some (.val df), some (.val .non)] ({ s₃ with heap := h₆, toks := tk' + 1 } : Shared).heap val₁ fp₁ := by
        refine I₃.rebase F hUL (fun b o n1 n2 q _ => ⟨o, hfl₆.1 b o (keep b o q n1 n2), fun _ => rfl⟩) (fun o q => ?_) ?_ (fun b o q => of_hideAll _ q) fun a ha => hideAll_none _ (hM1 a ha)
        · obtain ⟨m, ⟨o', es, ep, ho', hd', _⟩, _⟩ := I₃.frv.ns
          rw [q] at ho'
          cases ho'
          exact us₆ _ o q fun vs z => by rw [hd'] at z; cases z
        · obtain ⟨o', es, ep, ho', hd', _⟩ := hns0
          obtain ⟨sl, z⟩ := us₆ _ o' (I₃.bas _ _ ho') fun vs z => by rw [hd'] at z; cases z
          exact ⟨_, z⟩
      refine wpAny_execs_cons (wpAny_Assign_Name (Calls.Constant_str (st_ok (x := 2) F I₆ rfl (.refl _) (fun _ _ q => q) (RX.ofVal (.str l _)) fun s₇ nx₇ => wpAny_execs_nil ?_)))
      obtain ⟨M₇, val₇, fp₇, I₇, hM₇⟩ := nx₇.inv
      have hW₇ : W (hideAll h₆ (env.locals :: env.cells.map (·.2))) := O.ext hWb fun b o q => hideAll_get _ (hfl₆.1 b o (hbB b o q)) fun hm => by
        have := eb b o q; rw [hfx b hm] at this; cases this
      refine laid_fin (Q := fun v s' => St s s' ∧ KeepBut env0.locals s.heap s'.heap ∧ Rep prog w s'.heap U v res.toD) O hΓ F V Cm.rm hW₇ m2 I₇ (l := .str l) rfl fun v' s' st' ex' rv' => ?_
      refine ⟨st₃.trans (St.trans ⟨h₆, tk' + 1, rfl⟩ (nx₇.st.trans st')), ⟨fun b o nb q => ?_, fun o q => ?_⟩, hres' ▸ rv'⟩
      · refine ex' b o (hideAll_get _ (hfl₆.1 b o (keep b o (I₃.bas b o q) (fun e => by rw [e, hL1] at q; cases q) nb)) fun hm => ?_)
        rw [hfx b hm] at q; cases q
      · obtain ⟨o', es, ep, ho', hd', _⟩ := hns0
        rw [q] at ho'
        cases ho'
        obtain ⟨sl, z⟩ := us₆ _ o (I₃.bas _ _ q) fun vs z => by rw [hd'] at z; cases z
        refine ⟨sl, ex' _ _ (hideAll_get _ z fun hm => ?_)⟩
        rw [hfx _ hm] at q; cases q
    refine wpAny_looks_onW (by rw [← hfr, hA]; rfl) hfm hfl fun h₄ hheld hsm₄ => ?_
    refine wpAny_landsW hheld fun h₅ hfl₅ hsm₅ => ?_
    have us₅ := (us.trans hsm₄).trans hsm₅
    have hW₅ : W h₅ := O.ext hWb fun b o q => hfl₅.1 b o (hbB b o q)
    obtain ⟨ob, hob, hobc⟩ := hfl₅.there
    obtain ⟨mg, hg, OC⟩ := QO.cls hW₅
    obtain ⟨tl, N, nm, q, bs, hdct, sn, sub, ab, col, dd, k0, k1, k2, k3, k5, mN, hC, hN, hni, T⟩ := OC.obj
    refine wpAny_handleBy_cons (codeAny_handlers_test (load_own QO V hW₅ g1 ?_)) (by intro q; cases q)
    cases res with
    | ret d => cases hcls
    | oom =>
      cases hcls
      refine wpAny_excMatches_sub_self hC hob hobc (T.hasType (by decide)) (codeAny_handlers_suite ?_)
      refine lands_againW hfl₅ fun h₆ hfl₆ hsm₆ => ?_
      exact tail _ _ _ _ _ _ _ h₆ hfl₆ (us₅.trans hsm₆) rfl
    | val =>
      cases hcls
      refine excMatches_other hC hob hobc (T.hasType (by decide)) ?_
      refine wpAny_handleBy_builtin (X := "ValueError") (T := "ValueError") (b := true) PySem.F.isExc_ValueError PySem.F.notTuple_ValueError (by rw [isSubtype_type]; rfl) (load_bi O V hW₅ g2 rfl ⟨rfl, ⟨ob, hob, hobc⟩, ?_⟩)
      rw [if_pos rfl]
      refine lands_againW hfl₅ fun h₆ hfl₆ hsm₆ => ?_
      exact tail _ _ _ _ _ _ _ h₆ hfl₆ (us₅.trans hsm₆) rfl
end
end Mine

open PySem PySem.W PyProof.Rows
set_option Elab.async false
set_option maxRecDepth 100000
set_option maxHeartbeats 8000000
def Mine.isAssign : Stmt → Bool
  | .Assign .. => true
  | _ => false
def Mine.view (p : Program) : Program := { p with main := { p.main with body := p.main.body.filter fun s => !Mine.isAssign s } }
theorem Mine.left : LeftO PySem.Challenge.pw_wl_cinder_2v (Mine.view PySem.Challenge.pw_wl_cinder_2v) [] (fun s => xlAt (Mine.view PySem.Challenge.pw_wl_cinder_2v) [] s && recOk [] s) (Hook.obs Hook.none) (Hook.val Hook.none) 2052 := by
  intro w
  kernel_rfl

open PySem PySem.W PyProof.Rows
set_option Elab.async false
set_option maxRecDepth 100000
set_option maxHeartbeats 8000000
theorem Mine.hx (walk : ∀ d kwd, defOf (Mine.view PySem.Challenge.pw_wl_cinder_2v) (Str.ofString "law") = some (d, kwd) → WalkO (Mine.view PySem.Challenge.pw_wl_cinder_2v) [] (XL (Mine.view PySem.Challenge.pw_wl_cinder_2v) []) (Hook.says Hook.none) PySem.Challenge.rw_wl_cinder_2v.row.toRowW d kwd fun f vs => PySem.call f vs) : PySem.Challenge.rw_wl_cinder_2v.Holds := by
  refine holds_law (by decide +kernel) fun said => ?_
  refine holds_open (q := Mine.view PySem.Challenge.pw_wl_cinder_2v) (loose := []) (Xt := fun s => xlAt (Mine.view PySem.Challenge.pw_wl_cinder_2v) [] s && recOk [] s) (XP := XL (Mine.view PySem.Challenge.pw_wl_cinder_2v) []) (Yf := Hook.obs Hook.none) (Ya := Hook.val Hook.none) (YP := Hook.says Hook.none) (N := 2052) Mine.left (Hook.of Hook.none) (Hook.keeps Hook.none) (fun s e => xl_of s (Bool.and_eq_true_iff.mp e).1) XL.keeps (by rfl) (by rfl) (by rfl) (fun s e => recFacts_of (Bool.and_eq_true_iff.mp e).2) (by rfl) (by first | assumption | decide +kernel) (by decide +kernel) ⟨rfl, rfl, rfl, rfl, rfl, by decide +kernel⟩ ?hw ?hc
  case hw => w_witness2
  case hc => exact walk _ _ rfl

set_option maxRecDepth 100000
set_option Elab.async false
namespace Mine
open PySem PySem.W PyProof.Rows
def recd (p : Program) (f : String) : Option DefRec := (recsOf p).find? fun d => d.name == Str.ofString f
theorem swaps_true {elt : Expr} {gens : List Comprehension} {scope sc : Scope} {cpos pos : Pos} {t : Str} {l : Nat} (h : ((if sc.kind.isAnnotationScope then ScopeKind.function else sc.kind) == .function && sc.names.lookup t == some .local && pos.line == cpos.line && !(scope.names.any fun (n, k) => n == t && (k == .local || k == .cell))) = true) :
    ∀ env : Env, env.scope = sc → swapsWith (.ListComp elt gens scope cpos) (some (.Name t pos)) l env = pure true := by
  rintro env rfl
  exact congrArg pure h
def FnRel (f : String) (vs : List Str) (b : Ss) (k : Nat) : Prop := ∃ d, recd (Mine.view PySem.Challenge.pw_wl_cinder_2v) f = some d ∧ DefOK vs k d.name d.params d.body d.scope ∧ MSs d.scope vs b d.body
theorem r_is_pointer : FnRel "is_pointer" vs_is_pointer b_is_pointer 1 := by
  refine ⟨_, rfl, ⟨by decide, by decide, fun pm cd doc vals h => ?_, by decide, rfl, rfl, rfl, by decide⟩, ?_⟩
  · match vals, h with
    | [v0], _ => rfl
  · exact (SCons.cons (SRet.mk (NCmp.mk .eq (NBin.mk .mod (NVar.mk rfl (by first | exact .inl rfl | exact .inr rfl) rfl) NInt.mk) NInt.mk rfl)) SNil.mk)
theorem r_pointer_to : FnRel "pointer_to" vs_pointer_to b_pointer_to 1 := by
  refine ⟨_, rfl, ⟨by decide, by decide, fun pm cd doc vals h => ?_, by decide, rfl, rfl, rfl, by decide⟩, ?_⟩
  · match vals, h with
    | [v0], _ => rfl
  · exact (SCons.cons (SRet.mk (NBin.mk .add (NBin.mk .mul NInt.mk (NVar.mk rfl (by first | exact .inl rfl | exact .inr rfl) rfl)) NInt.mk)) SNil.mk)
theorem r_address_of : FnRel "address_of" vs_address_of b_address_of 1 := by
  refine ⟨_, rfl, ⟨by decide, by decide, fun pm cd doc vals h => ?_, by decide, rfl, rfl, rfl, by decide⟩, ?_⟩
  · match vals, h with
    | [v0], _ => rfl
  · exact (SCons.cons (SRet.mk (NBin.mk .fdiv (NVar.mk rfl (by first | exact .inl rfl | exact .inr rfl) rfl) NInt.mk)) SNil.mk)
theorem r_blocks_of : FnRel "blocks_of" vs_blocks_of b_blocks_of 1 := by
  refine ⟨_, rfl, ⟨by decide, by decide, fun pm cd doc vals h => ?_, by decide, rfl, rfl, rfl, by decide⟩, ?_⟩
  · match vals, h with
    | [v0], _ => rfl
  · exact (SCons.cons (SOwn.mk rfl (NLst.mk NNil.mk) (fun _ _ => rfl)) (SCons.cons (SAsg.assign rfl NInt.mk (fun _ _ => rfl)) (SCons.cons (SFor.mk rfl (NRange.mk ⟨rfl, rfl⟩ (NBi.bi (f := .len) (nm := "len") rfl ⟨rfl, rfl⟩ (NVar.mk rfl (by first | exact .inl rfl | exact .inr rfl) rfl))) (SCons.cons (SIf.mk (NCmp.mk .eq (NVar.mk rfl (by first | exact .inl rfl | exact .inr rfl) rfl) (NVar.mk rfl (by first | exact .inl rfl | exact .inr rfl) rfl) rfl) (SCons.cons (SAsg.assign rfl (NIdx.mk (NVar.mk rfl (by first | exact .inl rfl | exact .inr rfl) rfl) (NVar.mk rfl (by first | exact .inl rfl | exact .inr rfl) rfl)) (fun _ _ => rfl)) (SCons.cons (SAsg.assign rfl (NIte.mk (NCmp.mk .ge (NVar.mk rfl (by first | exact .inl rfl | exact .inr rfl) rfl) NInt.mk rfl) (NBin.mk .add (NVar.mk rfl (by first | exact .inl rfl | exact .inr rfl) rfl) NInt.mk) (NNeg.mk (NVar.mk rfl (by first | exact .inl rfl | exact .inr rfl) rfl))) (fun _ _ => rfl)) (SCons.cons (SIf.mk (NCmp.mk .gt (NBin.mk .add (NVar.mk rfl (by first | exact .inl rfl | exact .inr rfl) rfl) (NVar.mk rfl (by first | exact .inl rfl | exact .inr rfl) rfl)) (NBi.bi (f := .len) (nm := "len") rfl ⟨rfl, rfl⟩ (NVar.mk rfl (by first | exact .inl rfl | exact .inr rfl) rfl)) rfl) (SCons.cons (SRet.mk NNon.mk) SNil.mk) SNil.mk) (SCons.cons (SApp.mk rfl rfl (NTup.mk (NCons.mk (NVar.mk rfl (by first | exact .inl rfl | exact .inr rfl) rfl) (NCons.mk (NVar.mk rfl (by first | exact .inl rfl | exact .inr rfl) rfl) (NCons.mk (NCmp.mk .lt (NVar.mk rfl (by first | exact .inl rfl | exact .inr rfl) rfl) NInt.mk rfl) NNil.mk)))) rfl) (SCons.cons (SAsg.assign rfl (NBin.mk .add (NVar.mk rfl (by first | exact .inl rfl | exact .inr rfl) rfl) (NVar.mk rfl (by first | exact .inl rfl | exact .inr rfl) rfl)) (fun _ _ => rfl)) SNil.mk))))) SNil.mk) SNil.mk) (fun _ _ => rfl)) (SCons.cons (SRet.mk (NVar.mk rfl (by first | exact .inl rfl | exact .inr rfl) rfl)) SNil.mk))))
theorem r_free_words : FnRel "free_words" vs_free_words b_free_words 1 := by
  refine ⟨_, rfl, ⟨by decide, by decide, fun pm cd doc vals h => ?_, by decide, rfl, rfl, rfl, by decide⟩, ?_⟩
  · match vals, h with
    | [v0], _ => rfl
  · exact (SCons.cons (SAsg.assign rfl NInt.mk (fun _ _ => rfl)) (SCons.cons (SFor.mk rfl (NCall.mk (f := "blocks_of") ⟨rfl, rfl⟩ (NCons.mk (NVar.mk rfl (by first | exact .inl rfl | exact .inr rfl) rfl) NNil.mk) (List.cons_ne_nil _ _)) (SCons.cons (SIf.mk (NEx.mk (NIdx.mk (NVar.mk rfl (by first | exact .inl rfl | exact .inr rfl) rfl) NInt.mk) (fun _ _ => rfl)) (SCons.cons (SAsg.assign rfl (NBin.mk .add (NVar.mk rfl (by first | exact .inl rfl | exact .inr rfl) rfl) (NIdx.mk (NVar.mk rfl (by first | exact .inl rfl | exact .inr rfl) rfl) NInt.mk)) (fun _ _ => rfl)) SNil.mk) SNil.mk) SNil.mk) (fun _ _ => rfl)) (SCons.cons (SRet.mk (NVar.mk rfl (by first | exact .inl rfl | exact .inr rfl) rfl)) SNil.mk)))
theorem r_fields_of : FnRel "fields_of" vs_fields_of b_fields_of 2 := by
  refine ⟨_, rfl, ⟨by decide, by decide, fun pm cd doc vals h => ?_, by decide, rfl, rfl, rfl, by decide⟩, ?_⟩
  · match vals, h with
    | [v0, v1], _ => rfl
  · exact (SCons.cons (SRet.mk (NSlc.mk (NVar.mk rfl (by first | exact .inl rfl | exact .inr rfl) rfl) (NOpt.some (NBin.mk .add (NVar.mk rfl (by first | exact .inl rfl | exact .inr rfl) rfl) NInt.mk)) (NOpt.some (NBin.mk .add (NBin.mk .add (NVar.mk rfl (by first | exact .inl rfl | exact .inr rfl) rfl) NInt.mk) (NIdx.mk (NVar.mk rfl (by first | exact .inl rfl | exact .inr rfl) rfl) (NVar.mk rfl (by first | exact .inl rfl | exact .inr rfl) rfl)))))) SNil.mk)
theorem r_reachable : FnRel "reachable" vs_reachable b_reachable 2 := by
  refine ⟨_, rfl, ⟨by decide, by decide, fun pm cd doc vals h => ?_, by decide, rfl, rfl, rfl, by decide⟩, ?_⟩
  · match vals, h with
    | [v0, v1], _ => rfl
  · exact (SCons.cons (SOwn.mk rfl (NLst.mk NNil.mk) (fun _ _ => rfl)) (SCons.cons (SFor.mk rfl (NVar.mk rfl (by first | exact .inl rfl | exact .inr rfl) rfl) (SCons.cons (SIf.mk (NBoo.mk (NEx.mk (NCall.mk (f := "is_pointer") ⟨rfl, rfl⟩ (NCons.mk (NVar.mk rfl (by first | exact .inl rfl | exact .inr rfl) rfl) NNil.mk) (List.cons_ne_nil _ _)) (fun _ _ => rfl)) (NCmp.mk .notin (NCall.mk (f := "address_of") ⟨rfl, rfl⟩ (NCons.mk (NVar.mk rfl (by first | exact .inl rfl | exact .inr rfl) rfl) NNil.mk) (List.cons_ne_nil _ _)) (NVar.mk rfl (by first | exact .inl rfl | exact .inr rfl) rfl) rfl)) (SCons.cons (SApp.mk rfl rfl (NCall.mk (f := "address_of") ⟨rfl, rfl⟩ (NCons.mk (NVar.mk rfl (by first | exact .inl rfl | exact .inr rfl) rfl) NNil.mk) (List.cons_ne_nil _ _)) rfl) SNil.mk) SNil.mk) SNil.mk) (fun _ _ => rfl)) (SCons.cons (SAsg.assign rfl NInt.mk (fun _ _ => rfl)) (SCons.cons (SWh.mk (NCmp.mk .lt (NVar.mk rfl (by first | exact .inl rfl | exact .inr rfl) rfl) (NBi.bi (f := .len) (nm := "len") rfl ⟨rfl, rfl⟩ (NVar.mk rfl (by first | exact .inl rfl | exact .inr rfl) rfl)) rfl) (SCons.cons (SFor.mk rfl (NCall.mk (f := "fields_of") ⟨rfl, rfl⟩ (NCons.mk (NVar.mk rfl (by first | exact .inl rfl | exact .inr rfl) rfl) (NCons.mk (NIdx.mk (NVar.mk rfl (by first | exact .inl rfl | exact .inr rfl) rfl) (NVar.mk rfl (by first | exact .inl rfl | exact .inr rfl) rfl)) NNil.mk)) (List.cons_ne_nil _ _)) (SCons.cons (SIf.mk (NBoo.mk (NEx.mk (NCall.mk (f := "is_pointer") ⟨rfl, rfl⟩ (NCons.mk (NVar.mk rfl (by first | exact .inl rfl | exact .inr rfl) rfl) NNil.mk) (List.cons_ne_nil _ _)) (fun _ _ => rfl)) (NCmp.mk .notin (NCall.mk (f := "address_of") ⟨rfl, rfl⟩ (NCons.mk (NVar.mk rfl (by first | exact .inl rfl | exact .inr rfl) rfl) NNil.mk) (List.cons_ne_nil _ _)) (NVar.mk rfl (by first | exact .inl rfl | exact .inr rfl) rfl) rfl)) (SCons.cons (SApp.mk rfl rfl (NCall.mk (f := "address_of") ⟨rfl, rfl⟩ (NCons.mk (NVar.mk rfl (by first | exact .inl rfl | exact .inr rfl) rfl) NNil.mk) (List.cons_ne_nil _ _)) rfl) SNil.mk) SNil.mk) SNil.mk) (fun _ _ => rfl)) (SCons.cons (SAsg.assign rfl (NBin.mk .add (NVar.mk rfl (by first | exact .inl rfl | exact .inr rfl) rfl) NInt.mk) (fun _ _ => rfl)) SNil.mk))) (SCons.cons (SRet.mk (NVar.mk rfl (by first | exact .inl rfl | exact .inr rfl) rfl)) SNil.mk)))))
theorem r_swept : FnRel "swept" vs_swept b_swept 2 := by
  refine ⟨_, rfl, ⟨by decide, by decide, fun pm cd doc vals h => ?_, by decide, rfl, rfl, rfl, by decide⟩, ?_⟩
  · match vals, h with
    | [v0, v1], _ => rfl
  · exact (SCons.cons (SOwn.mk rfl (NLst.mk NNil.mk) (fun _ _ => rfl)) (SCons.cons (SAsg.assign rfl (NNeg.mk NInt.mk) (fun _ _ => rfl)) (SCons.cons (SFor.mk rfl (NCall.mk (f := "blocks_of") ⟨rfl, rfl⟩ (NCons.mk (NVar.mk rfl (by first | exact .inl rfl | exact .inr rfl) rfl) NNil.mk) (List.cons_ne_nil _ _)) (SCons.cons (SAsg.assign rfl (NIdx.mk (NVar.mk rfl (by first | exact .inl rfl | exact .inr rfl) rfl) NInt.mk) (fun _ _ => rfl)) (SCons.cons (SAsg.assign rfl (NIdx.mk (NVar.mk rfl (by first | exact .inl rfl | exact .inr rfl) rfl) NInt.mk) (fun _ _ => rfl)) (SCons.cons (SIf.mk (NBoo.mk (NNot.mk (NEx.mk (NIdx.mk (NVar.mk rfl (by first | exact .inl rfl | exact .inr rfl) rfl) NInt.mk) (fun _ _ => rfl))) (NCmp.mk .isin (NVar.mk rfl (by first | exact .inl rfl | exact .inr rfl) rfl) (NVar.mk rfl (by first | exact .inl rfl | exact .inr rfl) rfl) rfl)) (SCons.cons (SOwn.mk rfl (NBin.mk .add (NVar.mk rfl (by first | exact .inl rfl | exact .inr rfl) rfl) (NSlc.mk (NVar.mk rfl (by first | exact .inl rfl | exact .inr rfl) rfl) (NOpt.some (NVar.mk rfl (by first | exact .inl rfl | exact .inr rfl) rfl)) (NOpt.some (NBin.mk .add (NVar.mk rfl (by first | exact .inl rfl | exact .inr rfl) rfl) (NVar.mk rfl (by first | exact .inl rfl | exact .inr rfl) rfl))))) (fun _ _ => rfl)) (SCons.cons (SAsg.assign rfl (NNeg.mk NInt.mk) (fun _ _ => rfl)) SNil.mk)) (SCons.cons (SIf.mk (NCmp.mk .ge (NVar.mk rfl (by first | exact .inl rfl | exact .inr rfl) rfl) NInt.mk rfl) (SCons.cons (SSet.mk rfl rfl (NVar.mk rfl (by first | exact .inl rfl | exact .inr rfl) rfl) (NBin.mk .sub (NIdx.mk (NVar.mk rfl (by first | exact .inl rfl | exact .inr rfl) rfl) (NVar.mk rfl (by first | exact .inl rfl | exact .inr rfl) rfl)) (NVar.mk rfl (by first | exact .inl rfl | exact .inr rfl) rfl)) (fun _ _ => rfl)) (SCons.cons (SOwn.mk rfl (NBin.mk .add (NVar.mk rfl (by first | exact .inl rfl | exact .inr rfl) rfl) (NBin.mk .mul (NLst.mk (NCons.mk NInt.mk NNil.mk)) (NVar.mk rfl (by first | exact .inl rfl | exact .inr rfl) rfl))) (fun _ _ => rfl)) SNil.mk)) (SCons.cons (SAsg.assign rfl (NBi.bi (f := .len) (nm := "len") rfl ⟨rfl, rfl⟩ (NVar.mk rfl (by first | exact .inl rfl | exact .inr rfl) rfl)) (fun _ _ => rfl)) (SCons.cons (SOwn.mk rfl (NBin.mk .add (NBin.mk .add (NVar.mk rfl (by first | exact .inl rfl | exact .inr rfl) rfl) (NLst.mk (NCons.mk (NNeg.mk (NVar.mk rfl (by first | exact .inl rfl | exact .inr rfl) rfl)) NNil.mk))) (NBin.mk .mul (NLst.mk (NCons.mk NInt.mk NNil.mk)) (NBin.mk .sub (NVar.mk rfl (by first | exact .inl rfl | exact .inr rfl) rfl) NInt.mk))) (fun _ _ => rfl)) SNil.mk))) SNil.mk)) SNil.mk))) (fun _ _ => rfl)) (SCons.cons (SRet.mk (NVar.mk rfl (by first | exact .inl rfl | exact .inr rfl) rfl)) SNil.mk))))
theorem r_collected_by_sweeping : FnRel "collected_by_sweeping" vs_collected_by_sweeping b_collected_by_sweeping 2 := by
  refine ⟨_, rfl, ⟨by decide, by decide, fun pm cd doc vals h => ?_, by decide, rfl, rfl, rfl, by decide⟩, ?_⟩
  · match vals, h with
    | [v0, v1], _ => rfl
  · exact (SCons.cons (SRet.mk (NCall.mk (f := "swept") ⟨rfl, rfl⟩ (NCons.mk (NVar.mk rfl (by first | exact .inl rfl | exact .inr rfl) rfl) (NCons.mk (NCall.mk (f := "reachable") ⟨rfl, rfl⟩ (NCons.mk (NVar.mk rfl (by first | exact .inl rfl | exact .inr rfl) rfl) (NCons.mk (NVar.mk rfl (by first | exact .inl rfl | exact .inr rfl) rfl) NNil.mk)) (List.cons_ne_nil _ _)) NNil.mk)) (List.cons_ne_nil _ _))) SNil.mk)
theorem r_forwarded : FnRel "forwarded" vs_forwarded b_forwarded 5 := by
  refine ⟨_, rfl, ⟨by decide, by decide, fun pm cd doc vals h => ?_, by decide, rfl, rfl, rfl, by decide⟩, ?_⟩
  · match vals, h with
    | [v0, v1, v2, v3, v4], _ => rfl
  · exact (SCons.cons (SOwn.mk rfl (NBi.bi (f := .list) (nm := "list") rfl ⟨rfl, rfl⟩ (NVar.mk rfl (by first | exact .inl rfl | exact .inr rfl) rfl)) (fun _ _ => rfl)) (SCons.cons (SOwn.mk rfl (NBi.bi (f := .list) (nm := "list") rfl ⟨rfl, rfl⟩ (NVar.mk rfl (by first | exact .inl rfl | exact .inr rfl) rfl)) (fun _ _ => rfl)) (SCons.cons (SIf.mk (NNot.mk (NEx.mk (NCall.mk (f := "is_pointer") ⟨rfl, rfl⟩ (NCons.mk (NVar.mk rfl (by first | exact .inl rfl | exact .inr rfl) rfl) NNil.mk) (List.cons_ne_nil _ _)) (fun _ _ => rfl))) (SCons.cons (SRet2.mk rfl rfl rfl rfl (NCons.mk (NVar.mk rfl (by first | exact .inl rfl | exact .inr rfl) rfl) (NCons.mk (NVar.mk rfl (by first | exact .inl rfl | exact .inr rfl) rfl) NNil.mk)) (by decide)) SNil.mk) SNil.mk) (SCons.cons (SAsg.assign rfl (NCall.mk (f := "address_of") ⟨rfl, rfl⟩ (NCons.mk (NVar.mk rfl (by first | exact .inl rfl | exact .inr rfl) rfl) NNil.mk) (List.cons_ne_nil _ _)) (fun _ _ => rfl)) (SCons.cons (SIf.mk (NCmp.mk .lt (NIdx.mk (NVar.mk rfl (by first | exact .inl rfl | exact .inr rfl) rfl) (NVar.mk rfl (by first | exact .inl rfl | exact .inr rfl) rfl)) NInt.mk rfl) (SCons.cons (SFor.mk rfl (NRange.mk ⟨rfl, rfl⟩ (NBin.mk .add (NIdx.mk (NVar.mk rfl (by first | exact .inl rfl | exact .inr rfl) rfl) (NVar.mk rfl (by first | exact .inl rfl | exact .inr rfl) rfl)) NInt.mk)) (SCons.cons (SSet.mk rfl rfl (NBin.mk .add (NVar.mk rfl (by first | exact .inl rfl | exact .inr rfl) rfl) (NVar.mk rfl (by first | exact .inl rfl | exact .inr rfl) rfl)) (NIdx.mk (NVar.mk rfl (by first | exact .inl rfl | exact .inr rfl) rfl) (NBin.mk .add (NVar.mk rfl (by first | exact .inl rfl | exact .inr rfl) rfl) (NVar.mk rfl (by first | exact .inl rfl | exact .inr rfl) rfl))) (fun _ _ => rfl)) SNil.mk) (fun _ _ => rfl)) (SCons.cons (SSet.mk rfl rfl (NVar.mk rfl (by first | exact .inl rfl | exact .inr rfl) rfl) (NVar.mk rfl (by first | exact .inl rfl | exact .inr rfl) rfl) (fun _ _ => rfl)) (SCons.cons (SAsg.assign rfl (NBin.mk .add (NBin.mk .add (NVar.mk rfl (by first | exact .inl rfl | exact .inr rfl) rfl) (NIdx.mk (NVar.mk rfl (by first | exact .inl rfl | exact .inr rfl) rfl) (NVar.mk rfl (by first | exact .inl rfl | exact .inr rfl) rfl))) NInt.mk) (fun _ _ => rfl)) SNil.mk))) SNil.mk) (SCons.cons (SRet2.mk rfl rfl rfl rfl (NCons.mk (NVar.mk rfl (by first | exact .inl rfl | exact .inr rfl) rfl) (NCons.mk (NCall.mk (f := "pointer_to") ⟨rfl, rfl⟩ (NCons.mk (NIdx.mk (NVar.mk rfl (by first | exact .inl rfl | exact .inr rfl) rfl) (NVar.mk rfl (by first | exact .inl rfl | exact .inr rfl) rfl)) NNil.mk) (List.cons_ne_nil _ _)) NNil.mk)) (by decide)) SNil.mk))))))
theorem r_collected_by_copying : FnRel "collected_by_copying" vs_collected_by_copying b_collected_by_copying 2 := by
  refine ⟨_, rfl, ⟨by decide, by decide, fun pm cd doc vals h => ?_, by decide, rfl, rfl, rfl, by decide⟩, ?_⟩
  · match vals, h with
    | [v0, v1], _ => rfl
  · exact (SCons.cons (SAsg.assign rfl (NBi.bi (f := .len) (nm := "len") rfl ⟨rfl, rfl⟩ (NVar.mk rfl (by first | exact .inl rfl | exact .inr rfl) rfl)) (fun _ _ => rfl)) (SCons.cons (SOwn.mk rfl (NBin.mk .mul (NLst.mk (NCons.mk NInt.mk NNil.mk)) (NVar.mk rfl (by first | exact .inl rfl | exact .inr rfl) rfl)) (fun _ _ => rfl)) (SCons.cons (SOwn.mk rfl (NBin.mk .mul (NLst.mk (NCons.mk (NNeg.mk NInt.mk) NNil.mk)) (NVar.mk rfl (by first | exact .inl rfl | exact .inr rfl) rfl)) (fun _ _ => rfl)) (SCons.cons (SAsg.assign rfl NInt.mk (fun _ _ => rfl)) (SCons.cons (SOwn.mk rfl (NLst.mk NNil.mk) (fun _ _ => rfl)) (SCons.cons (SFor.mk rfl (NVar.mk rfl (by first | exact .inl rfl | exact .inr rfl) rfl) (SCons.frz rfl (SCons.frz rfl (SCons.cons (SOwn.mk rfl (NCall.mk (f := "forwarded") ⟨rfl, rfl⟩ (NCons.mk (NVar.mk rfl (by first | exact .inl rfl | exact .inr rfl) rfl) (NCons.mk (NVar.mk rfl (by first | exact .inl rfl | exact .inr rfl) rfl) (NCons.mk (NVar.mk rfl (by first | exact .inl rfl | exact .inr rfl) rfl) (NCons.mk (NVar.mk rfl (by first | exact .inl rfl | exact .inr rfl) rfl) (NCons.mk (NVar.mk rfl (by first | exact .inl rfl | exact .inr rfl) rfl) NNil.mk))))) (List.cons_ne_nil _ _)) (fun _ _ => rfl)) (SCons.cons (STake.mk rfl rfl rfl (by decide)) (SCons.cons (STake.mk rfl rfl rfl (by decide)) (SCons.cons (SAsg.assign rfl (NIdx.mk (NVar.mk rfl (by first | exact .inl rfl | exact .inr rfl) rfl) NInt.mk) (fun _ _ => rfl)) (SCons.cons (SApp.mk rfl rfl (NIdx.mk (NVar.mk rfl (by first | exact .inl rfl | exact .inr rfl) rfl) NInt.mk) rfl) SNil.mk))))))) (fun _ _ => rfl)) (SCons.cons (SAsg.assign rfl NInt.mk (fun _ _ => rfl)) (SCons.cons (SWh.mk (NCmp.mk .lt (NVar.mk rfl (by first | exact .inl rfl | exact .inr rfl) rfl) (NVar.mk rfl (by first | exact .inl rfl | exact .inr rfl) rfl) rfl) (SCons.cons (SFor.mk rfl (NRange.mk ⟨rfl, rfl⟩ (NIdx.mk (NVar.mk rfl (by first | exact .inl rfl | exact .inr rfl) rfl) (NVar.mk rfl (by first | exact .inl rfl | exact .inr rfl) rfl))) (SCons.frz rfl (SCons.frz rfl (SCons.cons (SOwn.mk rfl (NCall.mk (f := "forwarded") ⟨rfl, rfl⟩ (NCons.mk (NVar.mk rfl (by first | exact .inl rfl | exact .inr rfl) rfl) (NCons.mk (NVar.mk rfl (by first | exact .inl rfl | exact .inr rfl) rfl) (NCons.mk (NVar.mk rfl (by first | exact .inl rfl | exact .inr rfl) rfl) (NCons.mk (NVar.mk rfl (by first | exact .inl rfl | exact .inr rfl) rfl) (NCons.mk (NIdx.mk (NVar.mk rfl (by first | exact .inl rfl | exact .inr rfl) rfl) (NBin.mk .add (NBin.mk .add (NVar.mk rfl (by first | exact .inl rfl | exact .inr rfl) rfl) NInt.mk) (NVar.mk rfl (by first | exact .inl rfl | exact .inr rfl) rfl))) NNil.mk))))) (List.cons_ne_nil _ _)) (fun _ _ => rfl)) (SCons.cons (STake.mk rfl rfl rfl (by decide)) (SCons.cons (STake.mk rfl rfl rfl (by decide)) (SCons.cons (SAsg.assign rfl (NIdx.mk (NVar.mk rfl (by first | exact .inl rfl | exact .inr rfl) rfl) NInt.mk) (fun _ _ => rfl)) (SCons.cons (SSet.mk rfl rfl (NBin.mk .add (NBin.mk .add (NVar.mk rfl (by first | exact .inl rfl | exact .inr rfl) rfl) NInt.mk) (NVar.mk rfl (by first | exact .inl rfl | exact .inr rfl) rfl)) (NIdx.mk (NVar.mk rfl (by first | exact .inl rfl | exact .inr rfl) rfl) NInt.mk) (fun _ _ => rfl)) SNil.mk))))))) (fun _ _ => rfl)) (SCons.cons (SAsg.assign rfl (NBin.mk .add (NBin.mk .add (NVar.mk rfl (by first | exact .inl rfl | exact .inr rfl) rfl) (NIdx.mk (NVar.mk rfl (by first | exact .inl rfl | exact .inr rfl) rfl) (NVar.mk rfl (by first | exact .inl rfl | exact .inr rfl) rfl))) NInt.mk) (fun _ _ => rfl)) SNil.mk))) (SCons.cons (SIf.mk (NCmp.mk .lt (NVar.mk rfl (by first | exact .inl rfl | exact .inr rfl) rfl) (NVar.mk rfl (by first | exact .inl rfl | exact .inr rfl) rfl) rfl) (SCons.cons (SSet.mk rfl rfl (NVar.mk rfl (by first | exact .inl rfl | exact .inr rfl) rfl) (NBin.mk .sub (NVar.mk rfl (by first | exact .inl rfl | exact .inr rfl) rfl) (NVar.mk rfl (by first | exact .inl rfl | exact .inr rfl) rfl)) (fun _ _ => rfl)) SNil.mk) SNil.mk) (SCons.frz rfl (SCons.frz rfl (SCons.cons (SRet.mk (NTup.mk (NCons.mk (NVar.mk rfl (by first | exact .inl rfl | exact .inr rfl) rfl) (NCons.mk (NVar.mk rfl (by first | exact .inl rfl | exact .inr rfl) rfl) NNil.mk)))) SNil.mk))))))))))))
theorem r_shape_of : FnRel "shape_of" vs_shape_of b_shape_of 2 := by
  refine ⟨_, rfl, ⟨by decide, by decide, fun pm cd doc vals h => ?_, by decide, rfl, rfl, rfl, by decide⟩, ?_⟩
  · match vals, h with
    | [v0, v1], _ => rfl
  · exact (SCons.cons (SAsg.assign rfl (NCall.mk (f := "reachable") ⟨rfl, rfl⟩ (NCons.mk (NVar.mk rfl (by first | exact .inl rfl | exact .inr rfl) rfl) (NCons.mk (NVar.mk rfl (by first | exact .inl rfl | exact .inr rfl) rfl) NNil.mk)) (List.cons_ne_nil _ _)) (fun _ _ => rfl)) (SCons.cons (SOwn.mk rfl (NBin.mk .mul (NLst.mk (NCons.mk (NNeg.mk NInt.mk) NNil.mk)) (NBi.bi (f := .len) (nm := "len") rfl ⟨rfl, rfl⟩ (NVar.mk rfl (by first | exact .inl rfl | exact .inr rfl) rfl))) (fun _ _ => rfl)) (SCons.cons (SFor.mk rfl (NRange.mk ⟨rfl, rfl⟩ (NBi.bi (f := .len) (nm := "len") rfl ⟨rfl, rfl⟩ (NVar.mk rfl (by first | exact .inl rfl | exact .inr rfl) rfl))) (SCons.cons (SSet.mk rfl rfl (NIdx.mk (NVar.mk rfl (by first | exact .inl rfl | exact .inr rfl) rfl) (NVar.mk rfl (by first | exact .inl rfl | exact .inr rfl) rfl)) (NVar.mk rfl (by first | exact .inl rfl | exact .inr rfl) rfl) (fun _ _ => rfl)) SNil.mk) (fun _ _ => rfl)) (SCons.cons (SAsg.assignC rfl rfl (NVar.mk rfl (by first | exact .inl rfl | exact .inr rfl) rfl) (NIte.mk (NEx.mk (NCall.mk (f := "is_pointer") ⟨rfl, rfl⟩ (NCons.mk (NVar.mk rfl (by first | exact .inl rfl | exact .inr rfl) rfl) NNil.mk) (List.cons_ne_nil _ _)) (fun _ _ => rfl)) (NCall.mk (f := "pointer_to") ⟨rfl, rfl⟩ (NCons.mk (NIdx.mk (NVar.mk rfl (by first | exact .inl rfl | exact .inr rfl) rfl) (NCall.mk (f := "address_of") ⟨rfl, rfl⟩ (NCons.mk (NVar.mk rfl (by first | exact .inl rfl | exact .inr rfl) rfl) NNil.mk) (List.cons_ne_nil _ _))) NNil.mk) (List.cons_ne_nil _ _)) (NVar.mk rfl (by first | exact .inl rfl | exact .inr rfl) rfl)) (by constructor <;> first | rfl | decide | (intro _ _; rfl)) (swaps_true rfl)) (SCons.cons (SOwn.mk rfl (NLst.mk NNil.mk) (fun _ _ => rfl)) (SCons.cons (SFor.mk rfl (NVar.mk rfl (by first | exact .inl rfl | exact .inr rfl) rfl) (SCons.cons (SApp.mk rfl rfl (NComp.mk (NCall.mk (f := "fields_of") ⟨rfl, rfl⟩ (NCons.mk (NVar.mk rfl (by first | exact .inl rfl | exact .inr rfl) rfl) (NCons.mk (NVar.mk rfl (by first | exact .inl rfl | exact .inr rfl) rfl) NNil.mk)) (List.cons_ne_nil _ _)) (NIte.mk (NEx.mk (NCall.mk (f := "is_pointer") ⟨rfl, rfl⟩ (NCons.mk (NVar.mk rfl (by first | exact .inl rfl | exact .inr rfl) rfl) NNil.mk) (List.cons_ne_nil _ _)) (fun _ _ => rfl)) (NCall.mk (f := "pointer_to") ⟨rfl, rfl⟩ (NCons.mk (NIdx.mk (NVar.mk rfl (by first | exact .inl rfl | exact .inr rfl) rfl) (NCall.mk (f := "address_of") ⟨rfl, rfl⟩ (NCons.mk (NVar.mk rfl (by first | exact .inl rfl | exact .inr rfl) rfl) NNil.mk) (List.cons_ne_nil _ _))) NNil.mk) (List.cons_ne_nil _ _)) (NVar.mk rfl (by first | exact .inl rfl | exact .inr rfl) rfl)) (by constructor <;> first | rfl | decide | (intro _ _; rfl))) rfl) SNil.mk) (fun _ _ => rfl)) (SCons.frz rfl (SCons.cons (SRet.mk (NTup.mk (NCons.mk (NVar.mk rfl (by first | exact .inl rfl | exact .inr rfl) rfl) (NCons.mk (NVar.mk rfl (by first | exact .inl rfl | exact .inr rfl) rfl) NNil.mk)))) SNil.mk))))))))
theorem r_law_cell : FnRel "_law_cell" vs_law_cell b_law_cell 2 := by
  refine ⟨_, rfl, ⟨by decide, by decide, fun pm cd doc vals h => ?_, by decide, rfl, rfl, rfl, by decide⟩, ?_⟩
  · match vals, h with
    | [v0, v1], _ => rfl
  · exact (SCons.cons (SIf.mk (NCmp.mk .lt (NVar.mk rfl (by first | exact .inl rfl | exact .inr rfl) rfl) (NBi.bi (f := .len) (nm := "len") rfl ⟨rfl, rfl⟩ (NVar.mk rfl (by first | exact .inl rfl | exact .inr rfl) rfl)) rfl) (SCons.cons (SRet.mk (NIdx.mk (NVar.mk rfl (by first | exact .inl rfl | exact .inr rfl) rfl) (NVar.mk rfl (by first | exact .inl rfl | exact .inr rfl) rfl))) SNil.mk) SNil.mk) (SCons.cons (SRet.mk NInt.mk) SNil.mk))
theorem r_law_word : FnRel "_law_word" vs_law_word b_law_word 2 := by
  refine ⟨_, rfl, ⟨by decide, by decide, fun pm cd doc vals h => ?_, by decide, rfl, rfl, rfl, by decide⟩, ?_⟩
  · match vals, h with
    | [v0, v1], _ => rfl
  · exact (SCons.cons (SIf.mk (NBoo.mk (NCmp.mk .eq (NBin.mk .mod (NVar.mk rfl (by first | exact .inl rfl | exact .inr rfl) rfl) NInt.mk) NInt.mk rfl) (NCmp.mk .gt (NBi.bi (f := .len) (nm := "len") rfl ⟨rfl, rfl⟩ (NVar.mk rfl (by first | exact .inl rfl | exact .inr rfl) rfl)) NInt.mk rfl)) (SCons.cons (SRet.mk (NBin.mk .add (NBin.mk .mul NInt.mk (NIdx.mk (NVar.mk rfl (by first | exact .inl rfl | exact .inr rfl) rfl) (NBin.mk .mod (NBin.mk .fdiv (NVar.mk rfl (by first | exact .inl rfl | exact .inr rfl) rfl) NInt.mk) (NBi.bi (f := .len) (nm := "len") rfl ⟨rfl, rfl⟩ (NVar.mk rfl (by first | exact .inl rfl | exact .inr rfl) rfl))))) NInt.mk)) SNil.mk) SNil.mk) (SCons.cons (SRet.mk (NBin.mk .mul NInt.mk (NBin.mk .mod (NBin.mk .fdiv (NVar.mk rfl (by first | exact .inl rfl | exact .inr rfl) rfl) NInt.mk) NInt.mk))) SNil.mk))
theorem r_law_built : FnRel "_law_built" vs_law_built b_law_built 1 := by
  refine ⟨_, rfl, ⟨by decide, by decide, fun pm cd doc vals h => ?_, by decide, rfl, rfl, rfl, by decide⟩, ?_⟩
  · match vals, h with
    | [v0], _ => rfl
  · exact (SCons.cons (SOwn.mk rfl (NLst.mk NNil.mk) (fun _ _ => rfl)) (SCons.cons (SOwn.mk rfl (NLst.mk NNil.mk) (fun _ _ => rfl)) (SCons.cons (SAsg.assign rfl NInt.mk (fun _ _ => rfl)) (SCons.cons (SFor.mk rfl (NRange.mk ⟨rfl, rfl⟩ (NBin.mk .add NInt.mk (NBin.mk .mod (NCall.mk (f := "_law_cell") ⟨rfl, rfl⟩ (NCons.mk (NVar.mk rfl (by first | exact .inl rfl | exact .inr rfl) rfl) (NCons.mk NInt.mk NNil.mk)) (List.cons_ne_nil _ _)) NInt.mk))) (SCons.cons (SAsg.assign rfl (NBin.mk .mod (NCall.mk (f := "_law_cell") ⟨rfl, rfl⟩ (NCons.mk (NVar.mk rfl (by first | exact .inl rfl | exact .inr rfl) rfl) (NCons.mk (NBin.mk .add NInt.mk (NVar.mk rfl (by first | exact .inl rfl | exact .inr rfl) rfl)) NNil.mk)) (List.cons_ne_nil _ _)) NInt.mk) (fun _ _ => rfl)) (SCons.cons (SIf.mk (NCmp.mk .lt (NVar.mk rfl (by first | exact .inl rfl | exact .inr rfl) rfl) NInt.mk rfl) (SCons.cons (SApp.mk rfl rfl (NBin.mk .sub (NNeg.mk NInt.mk) (NVar.mk rfl (by first | exact .inl rfl | exact .inr rfl) rfl)) rfl) (SCons.cons (SAsg.assign rfl (NBin.mk .add (NBin.mk .add (NVar.mk rfl (by first | exact .inl rfl | exact .inr rfl) rfl) (NVar.mk rfl (by first | exact .inl rfl | exact .inr rfl) rfl)) NInt.mk) (fun _ _ => rfl)) SNil.mk)) (SCons.cons (SApp.mk rfl rfl (NBin.mk .mod (NVar.mk rfl (by first | exact .inl rfl | exact .inr rfl) rfl) NInt.mk) rfl) (SCons.cons (SApp.mk rfl rfl (NVar.mk rfl (by first | exact .inl rfl | exact .inr rfl) rfl) rfl) (SCons.cons (SAsg.assign rfl (NBin.mk .add (NBin.mk .add (NVar.mk rfl (by first | exact .inl rfl | exact .inr rfl) rfl) (NBin.mk .mod (NVar.mk rfl (by first | exact .inl rfl | exact .inr rfl) rfl) NInt.mk)) NInt.mk) (fun _ _ => rfl)) SNil.mk)))) SNil.mk)) (fun _ _ => rfl)) (SCons.cons (SAsg.assign rfl (NLst.mk NNil.mk) (fun _ _ => rfl)) (SCons.cons (SAsg.assign rfl NDic.mk (fun _ _ => rfl)) (SCons.cons (SAsg.assign rfl (NBin.mk .add NInt.mk (NBi.bi (f := .len) (nm := "len") rfl ⟨rfl, rfl⟩ (NVar.mk rfl (by first | exact .inl rfl | exact .inr rfl) rfl))) (fun _ _ => rfl)) (SCons.frz rfl (SCons.cons (SFor.mk rfl (NVar.mk rfl (by first | exact .inl rfl | exact .inr rfl) rfl) (SCons.cons (SIf.mk (NCmp.mk .lt (NVar.mk rfl (by first | exact .inl rfl | exact .inr rfl) rfl) NInt.mk rfl) (SCons.cons (SAsg.assign rfl (NBin.mk .add (NBin.mk .add (NVar.mk rfl (by first | exact .inl rfl | exact .inr rfl) rfl) (NLst.mk (NCons.mk (NVar.mk rfl (by first | exact .inl rfl | exact .inr rfl) rfl) NNil.mk))) (NBin.mk .mul (NLst.mk (NCons.mk NInt.mk NNil.mk)) (NBin.mk .sub (NNeg.mk (NVar.mk rfl (by first | exact .inl rfl | exact .inr rfl) rfl)) NInt.mk))) (fun _ _ => rfl)) SNil.mk) (SCons.frz rfl (SCons.cons (SAsg.assignC rfl rfl (NRange.mk ⟨rfl, rfl⟩ (NVar.mk rfl (by first | exact .inl rfl | exact .inr rfl) rfl)) (NCall.mk (f := "_law_word") ⟨rfl, rfl⟩ (NCons.mk (NCall.mk (f := "_law_cell") ⟨rfl, rfl⟩ (NCons.mk (NVar.mk rfl (by first | exact .inl rfl | exact .inr rfl) rfl) (NCons.mk (NBin.mk .add (NVar.mk rfl (by first | exact .inl rfl | exact .inr rfl) rfl) (NVar.mk rfl (by first | exact .inl rfl | exact .inr rfl) rfl)) NNil.mk)) (List.cons_ne_nil _ _)) (NCons.mk (NVar.mk rfl (by first | exact .inl rfl | exact .inr rfl) rfl) NNil.mk)) (List.cons_ne_nil _ _)) (by constructor <;> first | rfl | decide | (intro _ _; rfl)) (swaps_true rfl)) (SCons.cons (SAsg.assign rfl (NBi.bi (f := .dict) (nm := "dict") rfl ⟨rfl, rfl⟩ (NBin.mk .add (NBi.items rfl ⟨rfl, rfl⟩ rfl (NVar.mk rfl (by first | exact .inl rfl | exact .inr rfl) rfl)) (NLst.mk (NCons.mk (NTup.mk (NCons.mk (NBi.bi (f := .len) (nm := "len") rfl ⟨rfl, rfl⟩ (NVar.mk rfl (by first | exact .inl rfl | exact .inr rfl) rfl)) (NCons.mk (NVar.mk rfl (by first | exact .inl rfl | exact .inr rfl) rfl) NNil.mk))) NNil.mk)))) (fun _ _ => rfl)) (SCons.cons (SAsg.assign rfl (NBin.mk .add (NBin.mk .add (NVar.mk rfl (by first | exact .inl rfl | exact .inr rfl) rfl) (NLst.mk (NCons.mk (NVar.mk rfl (by first | exact .inl rfl | exact .inr rfl) rfl) NNil.mk))) (NVar.mk rfl (by first | exact .inl rfl | exact .inr rfl) rfl)) (fun _ _ => rfl)) (SCons.cons (SAsg.assign rfl (NBin.mk .add (NVar.mk rfl (by first | exact .inl rfl | exact .inr rfl) rfl) (NVar.mk rfl (by first | exact .inl rfl | exact .inr rfl) rfl)) (fun _ _ => rfl)) SNil.mk)))))) SNil.mk) (fun _ _ => rfl)) (SCons.frz rfl (SCons.cons (SAsg.assignC rfl rfl (NRange.mk ⟨rfl, rfl⟩ NInt.mk) (NCall.mk (f := "_law_word") ⟨rfl, rfl⟩ (NCons.mk (NCall.mk (f := "_law_cell") ⟨rfl, rfl⟩ (NCons.mk (NVar.mk rfl (by first | exact .inl rfl | exact .inr rfl) rfl) (NCons.mk (NBin.mk .add NInt.mk (NVar.mk rfl (by first | exact .inl rfl | exact .inr rfl) rfl)) NNil.mk)) (List.cons_ne_nil _ _)) (NCons.mk (NVar.mk rfl (by first | exact .inl rfl | exact .inr rfl) rfl) NNil.mk)) (List.cons_ne_nil _ _)) (by constructor <;> first | rfl | decide | (intro _ _; rfl)) (swaps_true rfl)) (SCons.cons (SRet.mk (NTup.mk (NCons.mk (NVar.mk rfl (by first | exact .inl rfl | exact .inr rfl) rfl) (NCons.mk (NVar.mk rfl (by first | exact .inl rfl | exact .inr rfl) rfl) (NCons.mk (NVar.mk rfl (by first | exact .inl rfl | exact .inr rfl) rfl) NNil.mk))))) SNil.mk))))))))))))
theorem r_law_reach : FnRel "_law_reach" vs_law_reach b_law_reach 2 := by
  refine ⟨_, rfl, ⟨by decide, by decide, fun pm cd doc vals h => ?_, by decide, rfl, rfl, rfl, by decide⟩, ?_⟩
  · match vals, h with
    | [v0, v1], _ => rfl
  · exact (SCons.cons (SOwn.mk rfl (NLst.mk NNil.mk) (fun _ _ => rfl)) (SCons.cons (SAsg.assign rfl (NBi.bi (f := .list) (nm := "list") rfl ⟨rfl, rfl⟩ (NVar.mk rfl (by first | exact .inl rfl | exact .inr rfl) rfl)) (fun _ _ => rfl)) (SCons.cons (SAsg.assign rfl NInt.mk (fun _ _ => rfl)) (SCons.cons (SWh.mk (NEx.mk NBool.mk (fun _ _ => rfl)) (SCons.cons (SIf.mk (NCmp.mk .eq (NVar.mk rfl (by first | exact .inl rfl | exact .inr rfl) rfl) (NBi.bi (f := .len) (nm := "len") rfl ⟨rfl, rfl⟩ (NVar.mk rfl (by first | exact .inl rfl | exact .inr rfl) rfl)) rfl) (SCons.cons SBrk.mk SNil.mk) SNil.mk) (SCons.cons (SAsg.assign rfl (NIdx.mk (NVar.mk rfl (by first | exact .inl rfl | exact .inr rfl) rfl) (NVar.mk rfl (by first | exact .inl rfl | exact .inr rfl) rfl)) (fun _ _ => rfl)) (SCons.cons (SIf.mk (NBoo.mk (NCmp.mk .eq (NBin.mk .mod (NVar.mk rfl (by first | exact .inl rfl | exact .inr rfl) rfl) NInt.mk) NInt.mk rfl) (NCmp.mk .notin (NBin.mk .fdiv (NVar.mk rfl (by first | exact .inl rfl | exact .inr rfl) rfl) NInt.mk) (NVar.mk rfl (by first | exact .inl rfl | exact .inr rfl) rfl) rfl)) (SCons.cons (SApp.mk rfl rfl (NBin.mk .fdiv (NVar.mk rfl (by first | exact .inl rfl | exact .inr rfl) rfl) NInt.mk) rfl) (SCons.cons (SAsg.assign rfl (NBin.mk .add (NVar.mk rfl (by first | exact .inl rfl | exact .inr rfl) rfl) (NIdx.mk (NVar.mk rfl (by first | exact .inl rfl | exact .inr rfl) rfl) (NBin.mk .fdiv (NVar.mk rfl (by first | exact .inl rfl | exact .inr rfl) rfl) NInt.mk))) (fun _ _ => rfl)) SNil.mk)) SNil.mk) (SCons.cons (SAsg.assign rfl (NBin.mk .add (NVar.mk rfl (by first | exact .inl rfl | exact .inr rfl) rfl) NInt.mk) (fun _ _ => rfl)) SNil.mk))))) (SCons.cons (SRet.mk (NVar.mk rfl (by first | exact .inl rfl | exact .inr rfl) rfl)) SNil.mk)))))
theorem r_law_mend : FnRel "_law_mend" vs_law_mend b_law_mend 2 := by
  refine ⟨_, rfl, ⟨by decide, by decide, fun pm cd doc vals h => ?_, by decide, rfl, rfl, rfl, by decide⟩, ?_⟩
  · match vals, h with
    | [v0, v1], _ => rfl
  · exact (SCons.cons (SRet.mk (NComp.mk (NVar.mk rfl (by first | exact .inl rfl | exact .inr rfl) rfl) (NIte.mk (NCmp.mk .eq (NBin.mk .mod (NVar.mk rfl (by first | exact .inl rfl | exact .inr rfl) rfl) NInt.mk) NInt.mk rfl) (NBin.mk .add (NBin.mk .mul NInt.mk (NIdx.mk (NVar.mk rfl (by first | exact .inl rfl | exact .inr rfl) rfl) (NBin.mk .fdiv (NVar.mk rfl (by first | exact .inl rfl | exact .inr rfl) rfl) NInt.mk))) NInt.mk) (NVar.mk rfl (by first | exact .inl rfl | exact .inr rfl) rfl)) (by constructor <;> first | rfl | decide | (intro _ _; rfl)))) SNil.mk)
theorem r_law_copy_due : FnRel "_law_copy_due" vs_law_copy_due b_law_copy_due 4 := by
  refine ⟨_, rfl, ⟨by decide, by decide, fun pm cd doc vals h => ?_, by decide, rfl, rfl, rfl, by decide⟩, ?_⟩
  · match vals, h with
    | [v0, v1, v2, v3], _ => rfl
  · exact (SCons.cons (SAsg.assign rfl NDic.mk (fun _ _ => rfl)) (SCons.cons (SAsg.assign rfl NInt.mk (fun _ _ => rfl)) (SCons.cons (SFor.mk rfl (NVar.mk rfl (by first | exact .inl rfl | exact .inr rfl) rfl) (SCons.cons (SAsg.assign rfl (NBi.bi (f := .dict) (nm := "dict") rfl ⟨rfl, rfl⟩ (NBin.mk .add (NBi.items rfl ⟨rfl, rfl⟩ rfl (NVar.mk rfl (by first | exact .inl rfl | exact .inr rfl) rfl)) (NLst.mk (NCons.mk (NTup.mk (NCons.mk (NVar.mk rfl (by first | exact .inl rfl | exact .inr rfl) rfl) (NCons.mk (NVar.mk rfl (by first | exact .inl rfl | exact .inr rfl) rfl) NNil.mk))) NNil.mk)))) (fun _ _ => rfl)) (SCons.cons (SAsg.assign rfl (NBin.mk .add (NBin.mk .add (NVar.mk rfl (by first | exact .inl rfl | exact .inr rfl) rfl) (NBi.bi (f := .len) (nm := "len") rfl ⟨rfl, rfl⟩ (NIdx.mk (NVar.mk rfl (by first | exact .inl rfl | exact .inr rfl) rfl) (NVar.mk rfl (by first | exact .inl rfl | exact .inr rfl) rfl)))) NInt.mk) (fun _ _ => rfl)) SNil.mk)) (fun _ _ => rfl)) (SCons.cons (SAsg.assign rfl (NLst.mk NNil.mk) (fun _ _ => rfl)) (SCons.cons (SFor.mk rfl (NVar.mk rfl (by first | exact .inl rfl | exact .inr rfl) rfl) (SCons.cons (SAsg.assign rfl (NBin.mk .add (NBin.mk .add (NVar.mk rfl (by first | exact .inl rfl | exact .inr rfl) rfl) (NLst.mk (NCons.mk (NBi.bi (f := .len) (nm := "len") rfl ⟨rfl, rfl⟩ (NIdx.mk (NVar.mk rfl (by first | exact .inl rfl | exact .inr rfl) rfl) (NVar.mk rfl (by first | exact .inl rfl | exact .inr rfl) rfl))) NNil.mk))) (NCall.mk (f := "_law_mend") ⟨rfl, rfl⟩ (NCons.mk (NIdx.mk (NVar.mk rfl (by first | exact .inl rfl | exact .inr rfl) rfl) (NVar.mk rfl (by first | exact .inl rfl | exact .inr rfl) rfl)) (NCons.mk (NVar.mk rfl (by first | exact .inl rfl | exact .inr rfl) rfl) NNil.mk)) (List.cons_ne_nil _ _))) (fun _ _ => rfl)) SNil.mk) (fun _ _ => rfl)) (SCons.cons (SIf.mk (NCmp.mk .lt (NVar.mk rfl (by first | exact .inl rfl | exact .inr rfl) rfl) (NVar.mk rfl (by first | exact .inl rfl | exact .inr rfl) rfl) rfl) (SCons.cons (SAsg.assign rfl (NBin.mk .add (NBin.mk .add (NVar.mk rfl (by first | exact .inl rfl | exact .inr rfl) rfl) (NLst.mk (NCons.mk (NBin.mk .sub (NVar.mk rfl (by first | exact .inl rfl | exact .inr rfl) rfl) (NVar.mk rfl (by first | exact .inl rfl | exact .inr rfl) rfl)) NNil.mk))) (NBin.mk .mul (NLst.mk (NCons.mk NInt.mk NNil.mk)) (NBin.mk .sub (NBin.mk .sub (NVar.mk rfl (by first | exact .inl rfl | exact .inr rfl) rfl) (NVar.mk rfl (by first | exact .inl rfl | exact .inr rfl) rfl)) NInt.mk))) (fun _ _ => rfl)) SNil.mk) SNil.mk) (SCons.cons (SRet.mk (NTup.mk (NCons.mk (NVar.mk rfl (by first | exact .inl rfl | exact .inr rfl) rfl) (NCons.mk (NCall.mk (f := "_law_mend") ⟨rfl, rfl⟩ (NCons.mk (NVar.mk rfl (by first | exact .inl rfl | exact .inr rfl) rfl) (NCons.mk (NVar.mk rfl (by first | exact .inl rfl | exact .inr rfl) rfl) NNil.mk)) (List.cons_ne_nil _ _)) NNil.mk)))) SNil.mk)))))))
theorem r_law_sweep_due : FnRel "_law_sweep_due" vs_law_sweep_due b_law_sweep_due 3 := by
  refine ⟨_, rfl, ⟨by decide, by decide, fun pm cd doc vals h => ?_, by decide, rfl, rfl, rfl, by decide⟩, ?_⟩
  · match vals, h with
    | [v0, v1, v2], _ => rfl
  · exact (SCons.cons (SAsg.assign rfl (NLst.mk NNil.mk) (fun _ _ => rfl)) (SCons.cons (SOwn.mk rfl (NLst.mk NNil.mk) (fun _ _ => rfl)) (SCons.cons (SFor.mk rfl (NBin.mk .add (NBi.bi (f := .sorted) (nm := "sorted") rfl ⟨rfl, rfl⟩ (NVar.mk rfl (by first | exact .inl rfl | exact .inr rfl) rfl)) (NLst.mk (NCons.mk (NVar.mk rfl (by first | exact .inl rfl | exact .inr rfl) rfl) NNil.mk))) (SCons.cons (SIf.mk (NCmp.mk .lt (NBi.bi (f := .len) (nm := "len") rfl ⟨rfl, rfl⟩ (NVar.mk rfl (by first | exact .inl rfl | exact .inr rfl) rfl)) (NVar.mk rfl (by first | exact .inl rfl | exact .inr rfl) rfl) rfl) (SCons.cons (SApp.mk rfl rfl (NTup.mk (NCons.mk (NBi.bi (f := .len) (nm := "len") rfl ⟨rfl, rfl⟩ (NVar.mk rfl (by first | exact .inl rfl | exact .inr rfl) rfl)) (NCons.mk (NBin.mk .sub (NVar.mk rfl (by first | exact .inl rfl | exact .inr rfl) rfl) (NBi.bi (f := .len) (nm := "len") rfl ⟨rfl, rfl⟩ (NVar.mk rfl (by first | exact .inl rfl | exact .inr rfl) rfl))) NNil.mk))) rfl) (SCons.cons (SAsg.assign rfl (NBin.mk .add (NBin.mk .add (NVar.mk rfl (by first | exact .inl rfl | exact .inr rfl) rfl) (NLst.mk (NCons.mk (NBin.mk .sub (NBi.bi (f := .len) (nm := "len") rfl ⟨rfl, rfl⟩ (NVar.mk rfl (by first | exact .inl rfl | exact .inr rfl) rfl)) (NVar.mk rfl (by first | exact .inl rfl | exact .inr rfl) rfl)) NNil.mk))) (NBin.mk .mul (NLst.mk (NCons.mk NInt.mk NNil.mk)) (NBin.mk .sub (NBin.mk .sub (NVar.mk rfl (by first | exact .inl rfl | exact .inr rfl) rfl) (NBi.bi (f := .len) (nm := "len") rfl ⟨rfl, rfl⟩ (NVar.mk rfl (by first | exact .inl rfl | exact .inr rfl) rfl))) NInt.mk))) (fun _ _ => rfl)) SNil.mk)) SNil.mk) (SCons.cons (SIf.mk (NCmp.mk .lt (NVar.mk rfl (by first | exact .inl rfl | exact .inr rfl) rfl) (NVar.mk rfl (by first | exact .inl rfl | exact .inr rfl) rfl) rfl) (SCons.cons (SAsg.assign rfl (NBin.mk .add (NBin.mk .add (NVar.mk rfl (by first | exact .inl rfl | exact .inr rfl) rfl) (NLst.mk (NCons.mk (NBi.bi (f := .len) (nm := "len") rfl ⟨rfl, rfl⟩ (NIdx.mk (NVar.mk rfl (by first | exact .inl rfl | exact .inr rfl) rfl) (NVar.mk rfl (by first | exact .inl rfl | exact .inr rfl) rfl))) NNil.mk))) (NIdx.mk (NVar.mk rfl (by first | exact .inl rfl | exact .inr rfl) rfl) (NVar.mk rfl (by first | exact .inl rfl | exact .inr rfl) rfl))) (fun _ _ => rfl)) SNil.mk) SNil.mk) SNil.mk)) (fun _ _ => rfl)) (SCons.frz rfl (SCons.cons (SRet.mk (NTup.mk (NCons.mk (NVar.mk rfl (by first | exact .inl rfl | exact .inr rfl) rfl) (NCons.mk (NVar.mk rfl (by first | exact .inl rfl | exact .inr rfl) rfl) NNil.mk)))) SNil.mk)))))
theorem r_law_shape_due : FnRel "_law_shape_due" vs_law_shape_due b_law_shape_due 3 := by
  refine ⟨_, rfl, ⟨by decide, by decide, fun pm cd doc vals h => ?_, by decide, rfl, rfl, rfl, by decide⟩, ?_⟩
  · match vals, h with
    | [v0, v1, v2], _ => rfl
  · exact (SCons.cons (SAsg.assign rfl NDic.mk (fun _ _ => rfl)) (SCons.cons (SFor.mk rfl (NRange.mk ⟨rfl, rfl⟩ (NBi.bi (f := .len) (nm := "len") rfl ⟨rfl, rfl⟩ (NVar.mk rfl (by first | exact .inl rfl | exact .inr rfl) rfl))) (SCons.cons (SAsg.assign rfl (NBi.bi (f := .dict) (nm := "dict") rfl ⟨rfl, rfl⟩ (NBin.mk .add (NBi.items rfl ⟨rfl, rfl⟩ rfl (NVar.mk rfl (by first | exact .inl rfl | exact .inr rfl) rfl)) (NLst.mk (NCons.mk (NTup.mk (NCons.mk (NIdx.mk (NVar.mk rfl (by first | exact .inl rfl | exact .inr rfl) rfl) (NVar.mk rfl (by first | exact .inl rfl | exact .inr rfl) rfl)) (NCons.mk (NVar.mk rfl (by first | exact .inl rfl | exact .inr rfl) rfl) NNil.mk))) NNil.mk)))) (fun _ _ => rfl)) SNil.mk) (fun _ _ => rfl)) (SCons.cons (SRet.mk (NTup.mk (NCons.mk (NCall.mk (f := "_law_mend") ⟨rfl, rfl⟩ (NCons.mk (NVar.mk rfl (by first | exact .inl rfl | exact .inr rfl) rfl) (NCons.mk (NVar.mk rfl (by first | exact .inl rfl | exact .inr rfl) rfl) NNil.mk)) (List.cons_ne_nil _ _)) (NCons.mk (NComp.mk (NVar.mk rfl (by first | exact .inl rfl | exact .inr rfl) rfl) (NCall.mk (f := "_law_mend") ⟨rfl, rfl⟩ (NCons.mk (NIdx.mk (NVar.mk rfl (by first | exact .inl rfl | exact .inr rfl) rfl) (NVar.mk rfl (by first | exact .inl rfl | exact .inr rfl) rfl)) (NCons.mk (NVar.mk rfl (by first | exact .inl rfl | exact .inr rfl) rfl) NNil.mk)) (List.cons_ne_nil _ _)) (by constructor <;> first | rfl | decide | (intro _ _; rfl))) NNil.mk)))) SNil.mk)))
theorem r_law_laid_due : FnRel "_law_laid_due" vs_law_laid_due b_law_laid_due 3 := by
  refine ⟨_, rfl, ⟨by decide, by decide, fun pm cd doc vals h => ?_, by decide, rfl, rfl, rfl, by decide⟩, ?_⟩
  · match vals, h with
    | [v0, v1, v2], _ => rfl
  · exact (SCons.cons (SFor2.mk rfl rfl (NVar.mk rfl (by first | exact .inl rfl | exact .inr rfl) rfl) (SCons.cons (SIf.mk (NCmp.mk .gt (NVar.mk rfl (by first | exact .inl rfl | exact .inr rfl) rfl) (NBi.bi (f := .len) (nm := "len") rfl ⟨rfl, rfl⟩ (NVar.mk rfl (by first | exact .inl rfl | exact .inr rfl) rfl)) rfl) (SCons.cons (SAsg.assign rfl (NBin.mk .add (NBin.mk .add (NSlc.mk (NVar.mk rfl (by first | exact .inl rfl | exact .inr rfl) rfl) (NOpt.none rfl) (NOpt.some (NVar.mk rfl (by first | exact .inl rfl | exact .inr rfl) rfl))) (NLst.mk (NCons.mk (NBi.bi (f := .len) (nm := "len") rfl ⟨rfl, rfl⟩ (NVar.mk rfl (by first | exact .inl rfl | exact .inr rfl) rfl)) NNil.mk))) (NVar.mk rfl (by first | exact .inl rfl | exact .inr rfl) rfl)) (fun _ _ => rfl)) (SCons.cons (SIf.mk (NCmp.mk .gt (NVar.mk rfl (by first | exact .inl rfl | exact .inr rfl) rfl) (NBin.mk .add (NBi.bi (f := .len) (nm := "len") rfl ⟨rfl, rfl⟩ (NVar.mk rfl (by first | exact .inl rfl | exact .inr rfl) rfl)) NInt.mk) rfl) (SCons.cons (SAsg.assign rfl (NBin.mk .add (NVar.mk rfl (by first | exact .inl rfl | exact .inr rfl) rfl) (NLst.mk (NCons.mk (NBin.mk .sub (NBin.mk .add (NBi.bi (f := .len) (nm := "len") rfl ⟨rfl, rfl⟩ (NVar.mk rfl (by first | exact .inl rfl | exact .inr rfl) rfl)) NInt.mk) (NVar.mk rfl (by first | exact .inl rfl | exact .inr rfl) rfl)) NNil.mk))) (fun _ _ => rfl)) SNil.mk) SNil.mk) (SCons.cons (SRet.mk (NTup.mk (NCons.mk (NBin.mk .add (NVar.mk rfl (by first | exact .inl rfl | exact .inr rfl) rfl) (NSlc.mk (NVar.mk rfl (by first | exact .inl rfl | exact .inr rfl) rfl) (NOpt.some (NBi.bi (f := .len) (nm := "len") rfl ⟨rfl, rfl⟩ (NVar.mk rfl (by first | exact .inl rfl | exact .inr rfl) rfl))) (NOpt.none rfl))) (NCons.mk (NVar.mk rfl (by first | exact .inl rfl | exact .inr rfl) rfl) NNil.mk)))) SNil.mk))) SNil.mk) SNil.mk) (fun _ _ => rfl)) (SCons.cons (SRet.mk NStr.mk) SNil.mk))
theorem r_law : FnRel "law" vs_law b_law 1 := by
  refine ⟨_, rfl, ⟨by decide, by decide, fun pm cd doc vals h => ?_, by decide, rfl, rfl, rfl, by decide⟩, ?_⟩
  · match vals, h with
    | [v0], _ => rfl
  · exact (SCons.cons (SUnp.mk (nms := [(_, _), (_, _), (_, _)]) rfl (NCall.mk (f := "_law_built") ⟨rfl, rfl⟩ (NCons.mk (NVar.mk rfl (by first | exact .inl rfl | exact .inr rfl) rfl) NNil.mk) (List.cons_ne_nil _ _)) (fun _ _ => rfl) (fun _ => rfl)) (SCons.cons (SAsg.assign rfl (NBi.bi (f := .len) (nm := "len") rfl ⟨rfl, rfl⟩ (NVar.mk rfl (by first | exact .inl rfl | exact .inr rfl) rfl)) (fun _ _ => rfl)) (SCons.cons (SAsg.assign rfl (NBin.mk .mod (NCall.mk (f := "_law_cell") ⟨rfl, rfl⟩ (NCons.mk (NVar.mk rfl (by first | exact .inl rfl | exact .inr rfl) rfl) (NCons.mk NInt.mk NNil.mk)) (List.cons_ne_nil _ _)) NInt.mk) (fun _ _ => rfl)) (SCons.cons (SAsg.assign rfl (NBi.bi (f := .list) (nm := "list") rfl ⟨rfl, rfl⟩ (NVar.mk rfl (by first | exact .inl rfl | exact .inr rfl) rfl)) (fun _ _ => rfl)) (SCons.cons (SAsg.assign rfl (NBi.bi (f := .list) (nm := "list") rfl ⟨rfl, rfl⟩ (NVar.mk rfl (by first | exact .inl rfl | exact .inr rfl) rfl)) (fun _ _ => rfl)) (SCons.cons (SAsg.assign rfl (NCall.mk (f := "_law_reach") ⟨rfl, rfl⟩ (NCons.mk (NVar.mk rfl (by first | exact .inl rfl | exact .inr rfl) rfl) (NCons.mk (NVar.mk rfl (by first | exact .inl rfl | exact .inr rfl) rfl) NNil.mk)) (List.cons_ne_nil _ _)) (fun _ _ => rfl)) (SCons.cons (SAsg.assign rfl (NBi.bi (f := .sum) (nm := "sum") rfl ⟨rfl, rfl⟩ (NComp.mk (NVar.mk rfl (by first | exact .inl rfl | exact .inr rfl) rfl) (NBin.mk .add (NBi.bi (f := .len) (nm := "len") rfl ⟨rfl, rfl⟩ (NIdx.mk (NVar.mk rfl (by first | exact .inl rfl | exact .inr rfl) rfl) (NVar.mk rfl (by first | exact .inl rfl | exact .inr rfl) rfl))) NInt.mk) (by constructor <;> first | rfl | decide | (intro _ _; rfl)))) (fun _ _ => rfl)) (SCons.cons (SAsg.assign rfl (NCall.mk (f := "_law_copy_due") ⟨rfl, rfl⟩ (NCons.mk (NVar.mk rfl (by first | exact .inl rfl | exact .inr rfl) rfl) (NCons.mk (NVar.mk rfl (by first | exact .inl rfl | exact .inr rfl) rfl) (NCons.mk (NVar.mk rfl (by first | exact .inl rfl | exact .inr rfl) rfl) (NCons.mk (NVar.mk rfl (by first | exact .inl rfl | exact .inr rfl) rfl) NNil.mk)))) (List.cons_ne_nil _ _)) (fun _ _ => rfl)) (SCons.cons (SUnp.mk (nms := [(_, _), (_, _)]) rfl (NCall.mk (f := "_law_sweep_due") ⟨rfl, rfl⟩ (NCons.mk (NVar.mk rfl (by first | exact .inl rfl | exact .inr rfl) rfl) (NCons.mk (NVar.mk rfl (by first | exact .inl rfl | exact .inr rfl) rfl) (NCons.mk (NVar.mk rfl (by first | exact .inl rfl | exact .inr rfl) rfl) NNil.mk))) (List.cons_ne_nil _ _)) (fun _ _ => rfl) (fun _ => rfl)) (SCons.cons (SAsg.assign rfl (NCall.mk (f := "_law_shape_due") ⟨rfl, rfl⟩ (NCons.mk (NVar.mk rfl (by first | exact .inl rfl | exact .inr rfl) rfl) (NCons.mk (NVar.mk rfl (by first | exact .inl rfl | exact .inr rfl) rfl) (NCons.mk (NVar.mk rfl (by first | exact .inl rfl | exact .inr rfl) rfl) NNil.mk))) (List.cons_ne_nil _ _)) (fun _ _ => rfl)) (SCons.cons (SAsg.assign rfl (NCall.mk (f := "collected_by_copying") ⟨rfl, rfl⟩ (NCons.mk (NVar.mk rfl (by first | exact .inl rfl | exact .inr rfl) rfl) (NCons.mk (NVar.mk rfl (by first | exact .inl rfl | exact .inr rfl) rfl) NNil.mk)) (List.cons_ne_nil _ _)) (fun _ _ => rfl)) (SCons.cons (SIf.mk (NCmp.mk .ne (NVar.mk rfl (by first | exact .inl rfl | exact .inr rfl) rfl) (NVar.mk rfl (by first | exact .inl rfl | exact .inr rfl) rfl) rfl) (SCons.cons (SRet.mk NBool.mk) SNil.mk) SNil.mk) (SCons.cons (SAsg.assign rfl (NCall.mk (f := "collected_by_sweeping") ⟨rfl, rfl⟩ (NCons.mk (NVar.mk rfl (by first | exact .inl rfl | exact .inr rfl) rfl) (NCons.mk (NVar.mk rfl (by first | exact .inl rfl | exact .inr rfl) rfl) NNil.mk)) (List.cons_ne_nil _ _)) (fun _ _ => rfl)) (SCons.cons (SIf.mk (NCmp.mk .ne (NVar.mk rfl (by first | exact .inl rfl | exact .inr rfl) rfl) (NVar.mk rfl (by first | exact .inl rfl | exact .inr rfl) rfl) rfl) (SCons.cons (SRet.mk NBool.mk) SNil.mk) SNil.mk) (SCons.cons (SIf.mk (NCmp.mk .ne (NCall.mk (f := "collected_by_copying") ⟨rfl, rfl⟩ (NCons.mk (NIdx.mk (NVar.mk rfl (by first | exact .inl rfl | exact .inr rfl) rfl) NInt.mk) (NCons.mk (NIdx.mk (NVar.mk rfl (by first | exact .inl rfl | exact .inr rfl) rfl) NInt.mk) NNil.mk)) (List.cons_ne_nil _ _)) (NVar.mk rfl (by first | exact .inl rfl | exact .inr rfl) rfl) rfl) (SCons.cons (SRet.mk NBool.mk) SNil.mk) SNil.mk) (SCons.cons (SIf.mk (NCmp.mk .ne (NCall.mk (f := "collected_by_sweeping") ⟨rfl, rfl⟩ (NCons.mk (NVar.mk rfl (by first | exact .inl rfl | exact .inr rfl) rfl) (NCons.mk (NVar.mk rfl (by first | exact .inl rfl | exact .inr rfl) rfl) NNil.mk)) (List.cons_ne_nil _ _)) (NVar.mk rfl (by first | exact .inl rfl | exact .inr rfl) rfl) rfl) (SCons.cons (SRet.mk NBool.mk) SNil.mk) SNil.mk) (SCons.cons (SIf.mk (NCmp.mk .ne (NCall.mk (f := "shape_of") ⟨rfl, rfl⟩ (NCons.mk (NVar.mk rfl (by first | exact .inl rfl | exact .inr rfl) rfl) (NCons.mk (NVar.mk rfl (by first | exact .inl rfl | exact .inr rfl) rfl) NNil.mk)) (List.cons_ne_nil _ _)) (NVar.mk rfl (by first | exact .inl rfl | exact .inr rfl) rfl) rfl) (SCons.cons (SRet.mk NBool.mk) SNil.mk) SNil.mk) (SCons.cons (SIf.mk (NCmp.mk .ne (NCall.mk (f := "shape_of") ⟨rfl, rfl⟩ (NCons.mk (NVar.mk rfl (by first | exact .inl rfl | exact .inr rfl) rfl) (NCons.mk (NVar.mk rfl (by first | exact .inl rfl | exact .inr rfl) rfl) NNil.mk)) (List.cons_ne_nil _ _)) (NVar.mk rfl (by first | exact .inl rfl | exact .inr rfl) rfl) rfl) (SCons.cons (SRet.mk NBool.mk) SNil.mk) SNil.mk) (SCons.cons (SIf.mk (NCmp.mk .ne (NCall.mk (f := "shape_of") ⟨rfl, rfl⟩ (NCons.mk (NIdx.mk (NVar.mk rfl (by first | exact .inl rfl | exact .inr rfl) rfl) NInt.mk) (NCons.mk (NIdx.mk (NVar.mk rfl (by first | exact .inl rfl | exact .inr rfl) rfl) NInt.mk) NNil.mk)) (List.cons_ne_nil _ _)) (NVar.mk rfl (by first | exact .inl rfl | exact .inr rfl) rfl) rfl) (SCons.cons (SRet.mk NBool.mk) SNil.mk) SNil.mk) (SCons.cons (SIf.mk (NCmp.mk .ne (NCall.mk (f := "free_words") ⟨rfl, rfl⟩ (NCons.mk (NIdx.mk (NVar.mk rfl (by first | exact .inl rfl | exact .inr rfl) rfl) NInt.mk) NNil.mk) (List.cons_ne_nil _ _)) (NBin.mk .sub (NVar.mk rfl (by first | exact .inl rfl | exact .inr rfl) rfl) (NVar.mk rfl (by first | exact .inl rfl | exact .inr rfl) rfl)) rfl) (SCons.cons (SRet.mk NBool.mk) SNil.mk) SNil.mk) (SCons.cons (SIf.mk (NCmp.mk .ne (NCall.mk (f := "free_words") ⟨rfl, rfl⟩ (NCons.mk (NVar.mk rfl (by first | exact .inl rfl | exact .inr rfl) rfl) NNil.mk) (List.cons_ne_nil _ _)) (NBin.mk .sub (NVar.mk rfl (by first | exact .inl rfl | exact .inr rfl) rfl) (NVar.mk rfl (by first | exact .inl rfl | exact .inr rfl) rfl)) rfl) (SCons.cons (SRet.mk NBool.mk) SNil.mk) SNil.mk) (SCons.cons (SFor.mk rfl (NLst.mk (NCons.mk (NBin.mk .mul (NLst.mk (NCons.mk NInt.mk NNil.mk)) (NVar.mk rfl (by first | exact .inl rfl | exact .inr rfl) rfl)) (NCons.mk (NSlc.mk (NIdx.mk (NVar.mk rfl (by first | exact .inl rfl | exact .inr rfl) rfl) NInt.mk) (NOpt.none rfl) (NOpt.some (NVar.mk rfl (by first | exact .inl rfl | exact .inr rfl) rfl))) NNil.mk))) (SCons.cons (SLaid.mk ⟨rfl, rfl⟩ (NIdx.mk (NVar.mk rfl (by first | exact .inl rfl | exact .inr rfl) rfl) NInt.mk) (NVar.mk rfl (by first | exact .inl rfl | exact .inr rfl) rfl) (NCall.mk (f := "_law_laid_due") ⟨rfl, rfl⟩ (NCons.mk (NIdx.mk (NVar.mk rfl (by first | exact .inl rfl | exact .inr rfl) rfl) NInt.mk) (NCons.mk (NLst.mk (NCons.mk (NTup.mk (NCons.mk (NVar.mk rfl (by first | exact .inl rfl | exact .inr rfl) rfl) (NCons.mk (NBin.mk .sub (NVar.mk rfl (by first | exact .inl rfl | exact .inr rfl) rfl) (NVar.mk rfl (by first | exact .inl rfl | exact .inr rfl) rfl)) NNil.mk))) NNil.mk)) (NCons.mk (NVar.mk rfl (by first | exact .inl rfl | exact .inr rfl) rfl) NNil.mk))) (List.cons_ne_nil _ _)) rfl) SNil.mk) (fun _ _ => rfl)) (SCons.cons (SFor.mk rfl (NLst.mk (NCons.mk (NBin.mk .mul (NLst.mk (NCons.mk NInt.mk NNil.mk)) (NVar.mk rfl (by first | exact .inl rfl | exact .inr rfl) rfl)) (NCons.mk (NSlc.mk (NVar.mk rfl (by first | exact .inl rfl | exact .inr rfl) rfl) (NOpt.none rfl) (NOpt.some (NVar.mk rfl (by first | exact .inl rfl | exact .inr rfl) rfl))) NNil.mk))) (SCons.cons (SLaid.mk ⟨rfl, rfl⟩ (NVar.mk rfl (by first | exact .inl rfl | exact .inr rfl) rfl) (NVar.mk rfl (by first | exact .inl rfl | exact .inr rfl) rfl) (NCall.mk (f := "_law_laid_due") ⟨rfl, rfl⟩ (NCons.mk (NVar.mk rfl (by first | exact .inl rfl | exact .inr rfl) rfl) (NCons.mk (NVar.mk rfl (by first | exact .inl rfl | exact .inr rfl) rfl) (NCons.mk (NVar.mk rfl (by first | exact .inl rfl | exact .inr rfl) rfl) NNil.mk))) (List.cons_ne_nil _ _)) rfl) SNil.mk) (fun _ _ => rfl)) (SCons.cons (SLaid.mk ⟨rfl, rfl⟩ (NBin.mk .add (NVar.mk rfl (by first | exact .inl rfl | exact .inr rfl) rfl) (NLst.mk (NCons.mk NInt.mk NNil.mk))) (NBin.mk .mul (NLst.mk (NCons.mk NInt.mk NNil.mk)) (NVar.mk rfl (by first | exact .inl rfl | exact .inr rfl) rfl)) NStr.mk rfl) (SCons.cons (SAsg.assign rfl (NBin.mk .mul (NLst.mk (NCons.mk NInt.mk NNil.mk)) (NVar.mk rfl (by first | exact .inl rfl | exact .inr rfl) rfl)) (fun _ _ => rfl)) (SCons.cons (SAsg.assign rfl (NBin.mk .mul (NLst.mk (NCons.mk (NNeg.mk NInt.mk) NNil.mk)) (NVar.mk rfl (by first | exact .inl rfl | exact .inr rfl) rfl)) (fun _ _ => rfl)) (SCons.cons (SOwn.mk rfl (NCall.mk (f := "forwarded") ⟨rfl, rfl⟩ (NCons.mk (NVar.mk rfl (by first | exact .inl rfl | exact .inr rfl) rfl) (NCons.mk (NVar.mk rfl (by first | exact .inl rfl | exact .inr rfl) rfl) (NCons.mk (NVar.mk rfl (by first | exact .inl rfl | exact .inr rfl) rfl) (NCons.mk NInt.mk (NCons.mk (NIdx.mk (NVar.mk rfl (by first | exact .inl rfl | exact .inr rfl) rfl) NInt.mk) NNil.mk))))) (List.cons_ne_nil _ _)) (fun _ _ => rfl)) (SCons.cons (SIf.mk (NCmp.mk .ne (NIdx.mk (NVar.mk rfl (by first | exact .inl rfl | exact .inr rfl) rfl) NInt.mk) (NIdx.mk (NIdx.mk (NVar.mk rfl (by first | exact .inl rfl | exact .inr rfl) rfl) NInt.mk) NInt.mk) rfl) (SCons.cons (SRet.mk NBool.mk) SNil.mk) SNil.mk) (SCons.cons (SIf.mk (NBoo.mk (NCmp.mk .ne (NVar.mk rfl (by first | exact .inl rfl | exact .inr rfl) rfl) (NBin.mk .mul (NLst.mk (NCons.mk NInt.mk NNil.mk)) (NVar.mk rfl (by first | exact .inl rfl | exact .inr rfl) rfl)) rfl) (NCmp.mk .ne (NVar.mk rfl (by first | exact .inl rfl | exact .inr rfl) rfl) (NBin.mk .mul (NLst.mk (NCons.mk (NNeg.mk NInt.mk) NNil.mk)) (NVar.mk rfl (by first | exact .inl rfl | exact .inr rfl) rfl)) rfl)) (SCons.cons (SRet.mk NBool.mk) SNil.mk) SNil.mk) (SCons.cons (SIf.mk (NBoo.mk (NCmp.mk .ne (NVar.mk rfl (by first | exact .inl rfl | exact .inr rfl) rfl) (NVar.mk rfl (by first | exact .inl rfl | exact .inr rfl) rfl) rfl) (NCmp.mk .ne (NVar.mk rfl (by first | exact .inl rfl | exact .inr rfl) rfl) (NVar.mk rfl (by first | exact .inl rfl | exact .inr rfl) rfl) rfl)) (SCons.cons (SRet.mk NBool.mk) SNil.mk) SNil.mk) (SCons.cons (SIf.mk (NBoo.mk (NCmp.mk .ne (NVar.mk rfl (by first | exact .inl rfl | exact .inr rfl) rfl) (NVar.mk rfl (by first | exact .inl rfl | exact .inr rfl) rfl) rfl) (NCmp.mk .ne (NVar.mk rfl (by first | exact .inl rfl | exact .inr rfl) rfl) (NVar.mk rfl (by first | exact .inl rfl | exact .inr rfl) rfl) rfl)) (SCons.cons (SRet.mk NBool.mk) SNil.mk) SNil.mk) (SCons.cons (SRet.mk NBool.mk) SNil.mk))))))))))))))))))))))))))))))))
theorem r_allocate : ∃ d st0 xt np cp rp k kp p st2 st3 np' cp' rp' xe, recd (Mine.view PySem.Challenge.pw_wl_cinder_2v) "allocate" = some d ∧ DefOK vs_allocate 2 d.name d.params d.body d.scope ∧
    d.body = [st0, .If xt [.Raise (some (.Call (.Name (Str.ofString "ValueError") np) [.Constant (.str (Str.ofString "the memory is not tiled by blocks")) k kp] [] cp)) none rp] [] p, st2, st3, .Raise (some (.Call (.Name (Str.ofString "OutOfMemory") np') [xe] [] cp')) none rp'] ∧
    MS d.scope vs_allocate a_alloc0 st0 ∧ MT d.scope vs_allocate (.cmp .isnone (.var 2) .non) xt ∧ MS d.scope vs_allocate a_alloc2 st2 ∧ MS d.scope vs_allocate a_alloc3 st3 ∧ ME d.scope vs_allocate e_alloc xe ∧ gl d.scope "ValueError" ∧ gl d.scope "OutOfMemory" := by
  refine ⟨_, _, _, _, _, _, _, _, _, _, _, _, _, _, _, rfl, ⟨by decide, by decide, fun pm cd doc vals h => ?_, by decide, rfl, rfl, rfl, by decide⟩, rfl, ?_, ?_, ?_, ?_, ?_, ⟨rfl, rfl⟩, ⟨rfl, rfl⟩⟩
  · match vals, h with
    | [v0, v1], _ => rfl
  · exact (SAsg.assign rfl (NCall.mk (f := "blocks_of") ⟨rfl, rfl⟩ (NCons.mk (NVar.mk rfl (by first | exact .inl rfl | exact .inr rfl) rfl) NNil.mk) (List.cons_ne_nil _ _)) (fun _ _ => rfl))
  · exact (NCmp.mk .isnone (NVar.mk rfl (by first | exact .inl rfl | exact .inr rfl) rfl) NNon.mk rfl)
  · exact (SAsg.assign rfl (NBin.mk .add (NBi.bi (f := .len) (nm := "len") rfl ⟨rfl, rfl⟩ (NVar.mk rfl (by first | exact .inl rfl | exact .inr rfl) rfl)) NInt.mk) (fun _ _ => rfl))
  · exact (SFor.mk rfl (NVar.mk rfl (by first | exact .inl rfl | exact .inr rfl) rfl) (SCons.cons (SIf.mk (NBoo.mk (NEx.mk (NIdx.mk (NVar.mk rfl (by first | exact .inl rfl | exact .inr rfl) rfl) NInt.mk) (fun _ _ => rfl)) (NCmp.mk .ge (NIdx.mk (NVar.mk rfl (by first | exact .inl rfl | exact .inr rfl) rfl) NInt.mk) (NVar.mk rfl (by first | exact .inl rfl | exact .inr rfl) rfl) rfl)) (SCons.cons (SAsg.assign rfl (NIdx.mk (NVar.mk rfl (by first | exact .inl rfl | exact .inr rfl) rfl) NInt.mk) (fun _ _ => rfl)) (SCons.cons (SOwn.mk rfl (NBi.bi (f := .list) (nm := "list") rfl ⟨rfl, rfl⟩ (NVar.mk rfl (by first | exact .inl rfl | exact .inr rfl) rfl)) (fun _ _ => rfl)) (SCons.cons (SSet.mk rfl rfl (NVar.mk rfl (by first | exact .inl rfl | exact .inr rfl) rfl) (NBi.bi (f := .len) (nm := "len") rfl ⟨rfl, rfl⟩ (NVar.mk rfl (by first | exact .inl rfl | exact .inr rfl) rfl)) (fun _ _ => rfl)) (SCons.cons (SFor.mk rfl (NRange.mk ⟨rfl, rfl⟩ (NBi.bi (f := .len) (nm := "len") rfl ⟨rfl, rfl⟩ (NVar.mk rfl (by first | exact .inl rfl | exact .inr rfl) rfl))) (SCons.cons (SSet.mk rfl rfl (NBin.mk .add (NBin.mk .add (NVar.mk rfl (by first | exact .inl rfl | exact .inr rfl) rfl) NInt.mk) (NVar.mk rfl (by first | exact .inl rfl | exact .inr rfl) rfl)) (NIdx.mk (NVar.mk rfl (by first | exact .inl rfl | exact .inr rfl) rfl) (NVar.mk rfl (by first | exact .inl rfl | exact .inr rfl) rfl)) (fun _ _ => rfl)) SNil.mk) (fun _ _ => rfl)) (SCons.cons (SIf.mk (NCmp.mk .gt (NIdx.mk (NVar.mk rfl (by first | exact .inl rfl | exact .inr rfl) rfl) NInt.mk) (NVar.mk rfl (by first | exact .inl rfl | exact .inr rfl) rfl) rfl) (SCons.cons (SSet.mk rfl rfl (NBin.mk .add (NVar.mk rfl (by first | exact .inl rfl | exact .inr rfl) rfl) (NVar.mk rfl (by first | exact .inl rfl | exact .inr rfl) rfl)) (NBin.mk .sub (NVar.mk rfl (by first | exact .inl rfl | exact .inr rfl) rfl) (NIdx.mk (NVar.mk rfl (by first | exact .inl rfl | exact .inr rfl) rfl) NInt.mk)) (fun _ _ => rfl)) SNil.mk) SNil.mk) (SCons.frz rfl (SCons.cons (SRet.mk (NTup.mk (NCons.mk (NVar.mk rfl (by first | exact .inl rfl | exact .inr rfl) rfl) (NCons.mk (NVar.mk rfl (by first | exact .inl rfl | exact .inr rfl) rfl) NNil.mk)))) SNil.mk))))))) SNil.mk) SNil.mk) (fun _ _ => rfl))
  · exact (NBin.mk .add (NBin.mk .add NStr.mk (NBi.bi (f := .str) (nm := "str") rfl ⟨rfl, rfl⟩ (NVar.mk rfl (by first | exact .inl rfl | exact .inr rfl) rfl))) NStr.mk)
end Mine

set_option maxRecDepth 100000
set_option Elab.async false
namespace Mine
open PySem PySem.Spec PyProof.Rows PySem.W

theorem r_law_laid : ∃ d st0 st2 p1 p2 p3 p4 p5 p6 p7 q1 q2 q3 q4 q5 t1 t2 t3 t4 t5 k k', recd (Mine.view PySem.Challenge.pw_wl_cinder_2v) "_law_laid" = some d ∧ DefOK vs_law_laid 2 d.name d.params d.body d.scope ∧
    d.body = [st0, .Try [.Assign [.Name (Str.ofString "got") p1] (.Call (.Name (Str.ofString "allocate") p2) [.Name (Str.ofString "mem") p3, .Name (Str.ofString "fields") p4] [] p5) p6]
      [.ExceptHandler (some (.Name (Str.ofString "OutOfMemory") q1)) none [.Assign [.Name (Str.ofString "got") q2] (.Constant (.str (Str.ofString "oom")) k q3) q4] q5, .ExceptHandler (some (.Name (Str.ofString "ValueError") t1)) none [.Assign [.Name (Str.ofString "got") t2] (.Constant (.str (Str.ofString "untiled")) k' t3) t4] t5] [] [] p7, st2] ∧
    MS d.scope vs_law_laid (.assign 2 .non) st0 ∧ ME d.scope vs_law_laid (.var 0) (.Name (Str.ofString "mem") p3) ∧ ME d.scope vs_law_laid (.var 1) (.Name (Str.ofString "fields") p4) ∧ MS d.scope vs_law_laid (.ret (.var 2)) st2 ∧
    gl d.scope "allocate" ∧ gl d.scope "OutOfMemory" ∧ gl d.scope "ValueError" := by
  refine ⟨_, _, _, _, _, _, _, _, _, _, _, _, _, _, _, _, _, _, _, _, _, _, rfl, ⟨by decide, by decide, fun pm cd doc vals h => ?_, by decide, rfl, rfl, rfl, by decide⟩, rfl, ?_, ?_, ?_, ?_, ⟨rfl, rfl⟩, ⟨rfl, rfl⟩, ⟨rfl, rfl⟩⟩
  · match vals, h with
    | [v0, v1], _ => rfl
  · exact SAsg.assign rfl NNon.mk (fun _ _ => rfl)
  · exact NVar.mk rfl (.inl rfl) rfl
  · exact NVar.mk rfl (.inl rfl) rfl
  · exact SRet.mk (NVar.mk rfl (.inl rfl) rfl)

theorem tab_rel {f : String} {b : Ss} {vs : List Str} {k : Nat} (h : tab f = some (b, vs, k)) : FnRel f vs b k := by
  unfold tab at h
  split at h <;> first | (cases h; done) | (cases h; first | exact r_is_pointer | exact r_pointer_to | exact r_address_of | exact r_blocks_of | exact r_free_words | exact r_fields_of | exact r_reachable | exact r_swept | exact r_collected_by_sweeping | exact r_forwarded | exact r_collected_by_copying | exact r_shape_of | exact r_law_cell | exact r_law_word | exact r_law_built | exact r_law_reach | exact r_law_mend | exact r_law_copy_due | exact r_law_sweep_due | exact r_law_shape_due | exact r_law_laid_due)

/-- where a def stands -/
def fnAt (p : Program) (mg : Str → Option Value) (f : String) : Option Addr := match recd p f, mg (Str.ofString f) with
  | some _, some (.ref a) => some a
  | _, _ => none

section
variable {loose : List Str} {mean : ExcName → Option Value} {mg mb : Str → Option Value}
theorem recd_name {p : Program} {f : String} {d : DefRec} (h : recd p f = some d) : d.name = Str.ofString f := beq_iff_eq.mp (List.find?_some (p := fun e : DefRec => e.name == Str.ofString f) h)
theorem fn_of {p : Program} {f : String} {d : DefRec} {h : Heap} (T : Top p loose mean mg mb h) (hr : recd p f = some d) : ∃ a, fnAt p mg f = some a ∧ ∀ h', Top p loose mean mg mb h' → IsFn h' a d.name d.params d.body d.scope := by
  have hn := recd_name hr
  obtain ⟨a, o, pm, code, doc, h1, h2, h3, h4⟩ := T.fn d (List.mem_of_find?_eq_some hr)
  refine ⟨a, by unfold fnAt; rw [hr, ← hn, h1], fun h' T' => ?_⟩
  obtain ⟨a', o', pm', code', doc', h1', h2', h3', h4'⟩ := T'.fn d (List.mem_of_find?_eq_some hr)
  rw [h1] at h1'
  cases h1'
  exact ⟨T'.nolimit, o', pm', code', doc', h2', h3', h4'⟩

theorem top_wok (hl : loose = []) : WOK (Top (Mine.view PySem.Challenge.pw_wl_cinder_2v) loose mean mg mb) (fnAt (Mine.view PySem.Challenge.pw_wl_cinder_2v) mg) where
  ext := fun T e => T.keeps e
  fns := fun {h f a} T hf => by
    unfold fnAt at hf
    split at hf
    · rename_i d v hr hm
      cases hf
      obtain ⟨a', o, pm, code, doc, h1, h2, h3, h4⟩ := T.fn d (List.mem_of_find?_eq_some hr)
      rw [recd_name hr, hm] at h1
      cases h1
      exact ⟨o, _, h2, h3⟩
    · cases hf
  nms := fun {h} T => by
    subst hl
    refine ⟨mg, mb, T.g, T.b, fun f a hf => ?_, fun n v hb => ?_⟩
    · unfold fnAt at hf
      split at hf
      · rename_i hm
        cases hf
        exact hm
      · cases hf
    · unfold biv at hb
      split at hb <;> cases hb <;> refine ⟨T.free _ (by decide +kernel) (by decide +kernel) (by decide +kernel) (by decide +kernel) (by decide +kernel), (T.builtins _ (by decide +kernel)).trans ?_⟩
      · exact PyProof.Rows.Boot.«len»
      · exact PyProof.Rows.Boot.«list»
      · exact PyProof.Rows.Boot.«sum»
      · exact PyProof.Rows.Boot.«sorted»
      · exact PyProof.Rows.Boot.«str»
      · exact PyProof.Rows.Boot.«dict»
      · exact PyProof.Rows.Boot.«range»
      · exact PyProof.Rows.Boot.«ValueError»
  big := fun {h} T => by
    obtain ⟨mc, ⟨o, _, _, ho, _⟩, _⟩ := T.nodigits
    exact Nat.lt_trans (show sysModules < cStatics by decide) (Heap.lt_size ho)

theorem top_oom {h : Heap} (T : Top (Mine.view PySem.Challenge.pw_wl_cinder_2v) loose mean mg mb h) : ∃ C, OomOK (Top (Mine.view PySem.Challenge.pw_wl_cinder_2v) loose mean mg mb) C := by
  have hs : specOf (Mine.view PySem.Challenge.pw_wl_cinder_2v) (Str.ofString "OutOfMemory") = some ("Exception.__new__", oomBases) := by decide +kernel
  obtain ⟨C, O, _⟩ := T.ownAt hs
  refine ⟨C, ⟨fun {h'} T' => ?_⟩⟩
  obtain ⟨C', O', _⟩ := T'.ownAt hs
  have := O.bound.symm.trans O'.bound
  cases this
  exact ⟨mg, T'.g, O'.own⟩

variable {prog : Program} {w : World}
theorem gt_ok (hl : loose = []) {h : Heap} (T : Top (Mine.view PySem.Challenge.pw_wl_cinder_2v) loose mean mg mb h) : ∀ n f ds r, Gt n f ds = some r → FunOK prog w (Top (Mine.view PySem.Challenge.pw_wl_cinder_2v) loose mean mg mb) (fnAt (Mine.view PySem.Challenge.pw_wl_cinder_2v) mg) n f ds r
  | 0, f, ds, r, h => by cases h
  | n + 1, f, ds, r, h => by
    unfold Gt at h
    split at h
    · rename_i b vs k ht
      split at h
      · rename_i hk
        obtain ⟨d, hr, DF, hm⟩ := tab_rel ht
        obtain ⟨a, ha, hF⟩ := fn_of T hr
        exact fun_ok (top_wok hl) DF ha hF hm (gt_ok hl T n) hk h
      · cases h
    · cases h

theorem ints_rep {P : Params} {h : Heap} {U : Addr → Prop} : ∀ (xs : List Int) (vs : List Value), WellAll P h vs (ofPys (xs.map PyData.int)) → Reps prog w h U vs (dints xs)
  | [], vs, x => by cases x; exact .nil
  | i :: xs, vs, x => by
    rw [List.map_cons, ofPys] at x
    cases x with
    | cons a r =>
      rw [ofPy] at a
      cases a
      exact .cons (.int i _) (ints_rep xs _ r)

theorem law_code (hl : loose = []) {s : Shared} (T : Top (Mine.view PySem.Challenge.pw_wl_cinder_2v) loose mean mg mb s.heap) {fa l : Addr} (hmg : mg (Str.ofString "law") = some (.ref fa)) {P : Params} {xs : List Int} (hw : Well P s.heap (.ref l) (ofPy (.list (xs.map .int)))) {R : Result → Shared → Prop} (hrun : lawM xs = some (.ret (.val (.bool true))))
    (hR : ∀ s', St s s' → Ext s.heap s'.heap → R (.ok (.ret (.bool true))) s') : codeAny (model prog w) callerA (.call (.ref fa) ⟨[.ref l], []⟩) R s := by
  obtain ⟨d, hr, DF, hm⟩ := r_law
  obtain ⟨a, ha, hF⟩ := fn_of T hr
  have : a = fa := by unfold fnAt at ha; rw [hr, hmg] at ha; exact (Option.some.inj ha).symm
  subst this
  rw [ofPy] at hw
  have rp : Rep prog w s.heap (fun _ => False) (.ref l) (.lst (dints xs)) := by
    cases hw with
    | list g r => exact .lst (n := 0) (fun h => h) g (ints_rep xs _ r)
  obtain ⟨C, QO⟩ := top_oom T
  have rm : Room callerA 5 := ⟨rfl, by decide, by decide⟩
  refine enter_code (n := 4) DF rfl (hF _ T) rm (U := fun _ => False) (fun a h => h.elim) (.cons rp .nil) fun env M val fp h₁ tk hsc F V hM hfr hfm rm' I => ?_
  rw [← hsc] at hm
  have hΛ : ∀ ds l, Lt ds = some l → LaidOK prog w (Top (Mine.view PySem.Challenge.pw_wl_cinder_2v) loose mean mg mb) (fnAt (Mine.view PySem.Challenge.pw_wl_cinder_2v) mg) (callerA.deeper env) env ds l := by
    intro ds l hlt
    unfold Lt at hlt
    split at hlt
    · rename_i dm df
      obtain ⟨res, hres, rfl⟩ := Option.map_eq_some_iff.mp hlt
      obtain ⟨d1, st0, xt, np, cp, rp, k, kp, p, st2, st3, np', cp', rp', xe, hr1, DF1, hb1, m0, mt, m2, m3, me, g1, g2⟩ := r_allocate
      obtain ⟨a1, ha1, hF1⟩ := fn_of T hr1
      obtain ⟨d2, st0', st2', p1, p2, p3, p4, p5, p6, p7, q1, q2, q3, q4, q5, t1, t2, t3, t4, t5, k1, k2, hr2, DF2, hb2, m0', mm', mf', m2', g0', g1', g2'⟩ := r_law_laid
      obtain ⟨a2, ha2, hF2⟩ := fn_of T hr2
      have AK : AllocOK prog w (Top (Mine.view PySem.Challenge.pw_wl_cinder_2v) loose mean mg mb) (fnAt (Mine.view PySem.Challenge.pw_wl_cinder_2v) mg) C 1 (Gt 1) 100 := ⟨a1, ha1, fun hA HF rm hW hU rp _ hres hQ hE => alloc_ok (top_wok hl) QO (gt_ok hl T 1) hF1 DF1 hb1 m0 mt m2 m3 me g1 g2 hA HF rm hW hU rp hres hQ hE⟩
      exact laid_ok (top_wok hl) QO (gt_ok hl T 1) AK ha2 hF2 DF2 hb2 m0' mm' mf' m2' g0' g1' g2' (by rw [← hfr]; rfl) hfm F.kf (rm'.less (by decide)) hres
    · cases hlt
  refine wpAny_mono (execs_ok (Λ := Lt) (s := { s with heap := h₁, toks := tk }) ⟨top_wok hl, rm'.less (by decide), gt_ok hl T 3, F, V, T, hΛ⟩ b_law hm I hrun) (fun fl s' out => ?_) fun _ _ x => x
  obtain ⟨v, rfl, st, ex, fnn, rs, fr, nd⟩ := out
  cases rs with
  | val r => cases r; exact hR s' (St.trans ⟨h₁, tk, rfl⟩ st) ex
end
end Mine

open PySem PySem.W PyProof.Rows
theorem Mine.fin (law_run : ∀ xs : List Int, xs.length ≤ 63 → Mine.lawM xs = some (.ret (.val (.bool true)))) : PySem.Challenge.rw_wl_cinder_2v.Holds := Mine.hx (by
  intro d kwd hdef
  cases (Option.some.inj hdef.symm.symm)
  intro w s₀ s₁ mg mb G Y fa o pm cd doc dV kV ho hd hcd hD hmg hg args vals as hpre hlay hrd hwl hlo
  refine Ground.open G ?_
  intro T B D TE TW
  clear D B TE TW Y
  wrow_args hpre hlay hrd hwl hlo
  all_goals (
    first | refine callC_kw (enter_call ?_) | refine enter_call ?_ | refine callC_kw (enter_callW ?_) | refine enter_callW ?_ | w_how
    refine codeAny_mono ?_ (fun _ _ g => GoodW.toG g)
    rename_i hw _ _ _ hc _
    refine Mine.law_code (by rfl) T hmg hw (law_run _ (by omega)) fun s' st ex => ?_
    obtain ⟨h', tk, rfl⟩ := st
    exact ⟨.inl ⟨.bool true, .bool true, [], rfl, fun _ => rfl, .bool _, by wrow_post, fun _ => ⟨List.nodup_nil, fun _ h => nomatch h⟩⟩, ex, rfl, hg⟩))

set_option maxRecDepth 10000
set_option linter.unusedSimpArgs false
set_option linter.unusedVariables false
namespace Mine
open PySem

noncomputable def il (xs : List Int) : D := .lst (dints xs)
abbrev N0 : List D → Option D := fun _ => none
theorem lst_dints (xs : List Int) : D.lst (dints xs) = il xs := rfl
theorem lst_nil : D.lst [] = il [] := rfl
theorem dints_app (xs : List Int) (a : Int) : dints xs ++ [D.int a] = dints (xs ++ [a]) := by rw [dints, dints, List.map_append]; rfl
theorem dints_apps (xs ys : List Int) : dints xs ++ dints ys = dints (xs ++ ys) := List.map_append.symm
theorem dints_set (xs : List Int) (k : Nat) (a : Int) : (dints xs).set k (D.int a) = dints (xs.set k a) := List.map_set.symm
theorem dints_len (xs : List Int) : (dints xs).length = xs.length := List.length_map ..
theorem dints_nil : dints [] = [] := rfl
theorem dints_cons (a : Int) (xs : List Int) : dints (a :: xs) = .int a :: dints xs := rfl
theorem dints_get (xs : List Int) (k : Nat) : (dints xs)[k]? = (xs[k]?).map .int := List.getElem?_map ..
theorem dints_drop (xs : List Int) (k : Nat) : (dints xs).drop k = dints (xs.drop k) := List.map_drop.symm
theorem dints_take (xs : List Int) (k : Nat) : (dints xs).take k = dints (xs.take k) := List.map_take.symm

theorem bin_int (op : Bop) (a b : Int) : bin2 op (.int a) (.int b) = (num2 op a b).map .int := by cases op <;> rfl
theorem bin_add (a b : Int) : bin2 .add (.int a) (.int b) = some (.int (a + b)) := rfl
theorem bin_sub (a b : Int) : bin2 .sub (.int a) (.int b) = some (.int (a - b)) := rfl
theorem bin_mul (a b : Int) : bin2 .mul (.int a) (.int b) = (if a.natAbs < 1000000 ∧ b.natAbs < 1000000 then some (a * b) else none).map .int := rfl
theorem bin_fdiv (a b : Int) : bin2 .fdiv (.int a) (.int b) = (if 0 < b ∧ b < 1000000 then some (a / b) else none).map .int := rfl
theorem bin_mod (a b : Int) : bin2 .mod (.int a) (.int b) = (if 0 < b then some (a % b) else none).map .int := rfl
theorem bi_len (xs : List Int) : bi1 .len (il xs) = if xs.length ≤ 4096 then some (.int xs.length) else none := by
  show (if (dints xs).length ≤ 4096 then some (D.int (dints xs).length) else none) = _
  rw [dints_len]
theorem bi_list (xs : List Int) : bi1 .list (il xs) = if xs.length ≤ 4096 then some (il xs) else none := by
  show (if (dints xs).length ≤ 4096 then some (il xs) else none) = _
  rw [dints_len]
theorem idx_il (xs : List Int) (k : Int) : idx2 (il xs) (.int k) = if 0 ≤ k ∧ k < 4096 then (xs[k.toNat]?).map .int else none := by
  show (if 0 ≤ k ∧ k < 4096 then (dints xs)[k.toNat]? else none) = _
  rw [dints_get]
theorem idx_tup (xs : List D) (k : Int) : idx2 (.tup xs) (.int k) = if 0 ≤ k ∧ k < 4096 then xs[k.toNat]? else none := rfl
theorem idx_dic (ks : List Int) (ds : List D) (k : Int) : idx2 (.dic ks ds) (.int k) = look k ks ds := rfl
theorem add_il (xs ys : List Int) : bin2 .add (il xs) (il ys) = if xs.length + ys.length ≤ 4096 then some (il (xs ++ ys)) else none := by
  show (if (dints xs ++ dints ys).length ≤ 4096 then some (D.lst (dints xs ++ dints ys)) else none) = _
  rw [dints_apps, dints_len, List.length_append]
  rfl
theorem rep_il (x n : Int) : bin2 .mul (il [x]) (.int n) = if 0 ≤ n ∧ n ≤ 4096 then some (il (List.replicate n.toNat x)) else none := by
  show (if 0 ≤ n ∧ n ≤ 4096 then some (D.lst (List.replicate n.toNat (D.int x))) else none) = _
  rw [← List.map_replicate]
  rfl
theorem mk_nil : mk [] = some (il []) := rfl
theorem mk_one (d : D) : mk [d] = some (.lst [d]) := rfl
theorem mk_int (i : Int) : D.lst [D.int i] = il [i] := rfl
theorem slc_il (xs : List Int) (a b : Int) : slc3 (il xs) (.int a) (.int b) = if 0 ≤ a ∧ 0 ≤ b ∧ xs.length ≤ 4096 then some (il ((xs.drop a.toNat).take (b.toNat - a.toNat))) else none := by
  show (if 0 ≤ a ∧ 0 ≤ b ∧ (dints xs).length ≤ 4096 then some (D.lst (((dints xs).drop a.toNat).take (b.toNat - a.toNat))) else none) = _
  rw [dints_len, dints_drop, dints_take]
  rfl
theorem slc_il0 (xs : List Int) (b : Int) : slc3 (il xs) .non (.int b) = if 0 ≤ b ∧ xs.length ≤ 4096 then some (il (xs.take b.toNat)) else none := by
  show (if 0 ≤ b ∧ (dints xs).length ≤ 4096 then some (D.lst ((dints xs).take b.toNat)) else none) = _
  rw [dints_len, dints_take]
  rfl
theorem slc_il1 (xs : List Int) (a : Int) : slc3 (il xs) (.int a) .non = if 0 ≤ a ∧ xs.length ≤ 4096 then some (il (xs.drop a.toNat)) else none := by
  show (if 0 ≤ a ∧ (dints xs).length ≤ 4096 then some (D.lst ((dints xs).drop a.toNat)) else none) = _
  rw [dints_len, dints_drop]
  rfl
theorem cmp_eq (a b : D) : cmp2 .eq a b = if (a.ok 4 && b.ok 4) = true then some (D.eqb a b) else none := rfl
theorem cmp_ne (a b : D) : cmp2 .ne a b = if (a.ok 4 && b.ok 4) = true then some (!D.eqb a b) else none := rfl
theorem cmp_lt (a b : Int) : cmp2 .lt (.int a) (.int b) = some (decide (a < b)) := rfl
theorem cmp_le (a b : Int) : cmp2 .le (.int a) (.int b) = some (decide (a ≤ b)) := rfl
theorem cmp_gt (a b : Int) : cmp2 .gt (.int a) (.int b) = some (decide (a > b)) := rfl
theorem cmp_ge (a b : Int) : cmp2 .ge (.int a) (.int b) = some (decide (a ≥ b)) := rfl
theorem ok_int : ∀ (n : Nat) (i : Int), D.ok n (.int i) = true
  | 0, _ => rfl
  | _ + 1, _ => rfl
theorem ok_dints (n : Nat) : ∀ xs : List Int, (dints xs).all (D.ok n) = true
  | [] => rfl
  | x :: xs => by rw [dints_cons, List.all_cons, ok_int, ok_dints n xs]; rfl
theorem okn_il (n : Nat) (xs : List Int) : D.ok (n + 1) (il xs) = true := ok_dints n xs
theorem ok_il (xs : List Int) : D.ok 4 (il xs) = true := okn_il 3 xs
theorem eqb_int (a b : Int) : D.eqb (.int a) (.int b) = decide (a = b) := rfl
theorem eqbs_dints : ∀ xs ys : List Int, D.eqbs (dints xs) (dints ys) = decide (xs = ys)
  | [], [] => rfl
  | [], y :: ys => rfl
  | x :: xs, [] => rfl
  | x :: xs, y :: ys => by
    show (decide (x = y) && D.eqbs (dints xs) (dints ys)) = _
    rw [eqbs_dints xs ys, ← Bool.decide_and]
    exact decide_eq_decide.mpr (by rw [List.cons.injEq])
theorem eqb_il (xs ys : List Int) : D.eqb (il xs) (il ys) = decide (xs = ys) := eqbs_dints xs ys
theorem any_dints (a : Int) (xs : List Int) : ((dints xs).any fun x => D.eqb x (.int a)) = decide (a ∈ xs) := by
  induction xs with
  | nil => rfl
  | cons x xs ih => rw [dints_cons, List.any_cons, ih, eqb_int]; simp [Bool.decide_or, eq_comm]
theorem all_dints (xs : List Int) : (dints xs).all (D.ok 0) = true := ok_dints 0 xs
theorem cmp_in (a : Int) (xs : List Int) : cmp2 .isin (.int a) (il xs) = some (decide (a ∈ xs)) := by
  show (if (dints xs).all (D.ok 0) = true then some ((dints xs).any fun x => D.eqb x (.int a)) else none) = _
  rw [if_pos (all_dints xs), any_dints]
theorem cmp_notin (a : Int) (xs : List Int) : cmp2 .notin (.int a) (il xs) = some (!decide (a ∈ xs)) := by
  show (if (dints xs).all (D.ok 0) = true then some (!(dints xs).any fun x => D.eqb x (.int a)) else none) = _
  rw [if_pos (all_dints xs), any_dints]

theorem mk_dints (xs : List Int) : mk (dints xs) = if xs.length ≤ 4096 then some (il xs) else none := by
  show (if (dints xs).length ≤ 4096 then some (il xs) else none) = _
  rw [dints_len]
noncomputable section
noncomputable def toOwn (d : D) : Option R := match d with
  | .lst xs => some (.own xs)
  | _ => none
noncomputable def seqD (d : D) : Option (List D) := match d with
  | .lst xs => if xs.length ≤ 4096 then some xs else none
  | _ => none
noncomputable def asg (x : Nat) (d : D) (σ : Sto) : Option Sto := some (σ.set x (some (.val d)))
noncomputable def asg2 (x y : Nat) (d : D) (σ : Sto) : Option Sto := match d with | .tup ds => puts [x, y] ds σ | _ => none
noncomputable def tst (Γ : Gam) (t : T) (σ : Sto) : Option Bool := evT Γ t σ
noncomputable def rngD (d : D) : Option (List D) := match d with
  | .int n => rangeD n
  | _ => none
noncomputable def negD (d : D) : Option D := match d with
  | .int i => some (.int (-i))
  | _ => none
noncomputable def elt (Γ : Gam) (e : E) (σ : Sto) (x : D) : Option D := ev Γ e (σ ++ [some (.val x)])
noncomputable def evB (Γ : Gam) (e : E) (σ : Sto) : Option D := brw e σ (ev Γ e σ)
noncomputable def nx (Γ : Gam) (Λ : List D → Option D) (fuel : Nat) (ss : Ss) (o : Option O) : Option O := o.bind fun o => match o with
  | .next σ' => execs Γ Λ fuel ss σ'
  | o => some o
noncomputable def rt (o : Option O) : Option R := o.bind fun o => match o with
  | .ret r => some r
  | .next _ => some (.val .non)
  | _ => none
noncomputable def setV (σ : Sto) (x : Nat) (o : Option D) : Option O := o.map fun d => .next (put σ x (.val d))
noncomputable def setR (σ : Sto) (x : Nat) (o : Option R) : Option O := o.map fun r => .next (put σ x r)
noncomputable def nxt (o : Option Sto) : Option O := o.map .next
noncomputable def un (xs : List Nat) (σ : Sto) (o : Option D) : Option O := o.bind fun d => match d with | .tup ds => (puts xs ds σ).map .next | _ => none
noncomputable def si (x : Nat) (σ : Sto) (o q : Option D) : Option O := o.bind fun d => q.bind fun k => match k with
  | .int k => (ownOf σ x).bind fun xs => if 0 ≤ k ∧ k < xs.length ∧ xs.length ≤ lid then some (.next (put σ x (.own (xs.set k.toNat d)))) else none
  | _ => none
noncomputable def si2 (x : Nat) (σ : Sto) (d : D) (k : Int) (o : Option (List D)) : Option O := o.bind fun xs => if 0 ≤ k ∧ k < xs.length ∧ xs.length ≤ lid then some (.next (put σ x (.own (xs.set k.toNat d)))) else none
noncomputable def ap (x : Nat) (σ : Sto) (o : Option D) (q : Option (List D)) : Option O := o.bind fun d => q.bind fun xs => if xs.length < lid then some (.next (put σ x (.own (xs ++ [d])))) else none
noncomputable def br (Γ : Gam) (Λ : List D → Option D) (fuel : Nat) (a b : Ss) (σ : Sto) (o : Option Bool) : Option O := o.bind fun c => if c then execs Γ Λ fuel a σ else execs Γ Λ fuel b σ
noncomputable def f1 (Γ : Gam) (Λ : List D → Option D) (fuel x : Nat) (b : Ss) (σ : Sto) (o : Option (List D)) : Option O := o.bind fun xs => fo (asg x) (execs Γ Λ fuel b) xs σ
noncomputable def f2 (Γ : Gam) (Λ : List D → Option D) (fuel x y : Nat) (b : Ss) (σ : Sto) (o : Option (List D)) : Option O := o.bind fun xs => fo (asg2 x y) (execs Γ Λ fuel b) xs σ
noncomputable def rv (o : Option D) : Option O := o.map fun d => .ret (.val d)
noncomputable def r2 (x y : Nat) (o q : Option (List D)) (r : Option (List D)) : Option O := if x = y then none else o.bind fun xs => q.bind fun ys => r.map fun ds => .ret (.tup (.own xs :: .own ys :: ds.map .val))
noncomputable def ld (Λ : List D → Option D) (σ : Sto) (m f r : Option D) : Option O := m.bind fun dm => f.bind fun df => (Λ [dm, df]).bind fun l => r.bind fun dr => (cmp2 .ne l dr).map fun b => if b then .ret (.val (.bool false)) else .next σ
noncomputable def ld2 (σ : Sto) (l r : Option D) : Option O := l.bind fun l => r.bind fun dr => (cmp2 .ne l dr).map fun b => if b then .ret (.val (.bool false)) else .next σ
noncomputable def ld3 (σ : Sto) (o : Option Bool) : Option O := o.map fun b => if b then .ret (.val (.bool false)) else .next σ
noncomputable def rg (o : Option D) : Option (List D) := o.bind rngD
noncomputable def sq (o : Option D) : Option (List D) := o.bind seqD
noncomputable def cO (Γ : Gam) (f : String) (o : Option (List D)) : Option R := o.bind fun ds => Γ f ds
noncomputable def ow (o : Option D) : Option R := o.bind toOwn
noncomputable def bo (op : Bop) (o q : Option D) : Option D := o.bind fun x => q.bind fun y => bin2 op x y
noncomputable def cmo (op : Cop) (o q : Option D) : Option Bool := o.bind fun x => q.bind fun y => cmp2 op x y
noncomputable def cb (op : Cop) (o q : Option D) : Option D := o.bind fun x => q.bind fun y => (cmp2 op x y).map .bool
noncomputable def bl (o : Option Bool) : Option D := o.map .bool
noncomputable def ng (o : Option D) : Option D := o.bind negD
noncomputable def ei (Γ : Gam) (a b : E) (σ : Sto) (o : Option Bool) : Option D := o.bind fun c => if c then ev Γ a σ else ev Γ b σ
noncomputable def cl (Γ : Gam) (f : String) (o : Option (List D)) : Option D := o.bind fun ds => (Γ f ds).bind R.toD?
noncomputable def rD (o : Option R) : Option D := o.bind R.toD?
noncomputable def bf (f : Bi) (o : Option D) : Option D := o.bind fun x => bi1 f x
noncomputable def ix2 (c o q : Option D) : Option D := match c with
  | some d => some d
  | none => o.bind fun x => q.bind fun y => idx2 x y
noncomputable def s3 (o q r : Option D) : Option D := o.bind fun x => q.bind fun y => r.bind fun z => slc3 x y z
noncomputable def mko (o : Option (List D)) : Option D := o.bind mk
noncomputable def tpo (o : Option (List D)) : Option D := o.bind fun ds => if ds.length ≤ lid then some (.tup ds) else none
noncomputable def cm (Γ : Gam) (e : E) (σ : Sto) (o : Option (List D)) : Option D := o.bind fun xs => (mapO (elt Γ e σ) xs).bind mk
noncomputable def cn (o : Option D) (q : Option (List D)) : Option (List D) := o.bind fun d => q.map (d :: ·)
noncomputable def nt (o : Option Bool) : Option Bool := o.map (!·)
noncomputable def an (Γ : Gam) (b : T) (σ : Sto) (o : Option Bool) : Option Bool := o.bind fun x => if x then evT Γ b σ else some false
noncomputable def orr (Γ : Gam) (b : T) (σ : Sto) (o : Option Bool) : Option Bool := o.bind fun x => if x then some true else evT Γ b σ
noncomputable def tb (o : Option D) : Option Bool := o.bind fun x => match x with | .bool b => some b | _ => none
noncomputable def toV (o : Option R) : Option D := match o with
  | some (.val d) => some d
  | _ => none
noncomputable def toB (o : Option R) : Option D := match o with
  | some (.val d) => some d
  | some (.own xs) => some (.lst xs)
  | _ => none
noncomputable def toO (o : Option R) : Option (List D) := match o with
  | some (.own xs) => some xs
  | _ => none
noncomputable def cpt (k : Int) (o : Option R) : Option D := match o with
  | some (.tup cs) => if 0 ≤ k ∧ k < lid then (cs[k.toNat]?).bind fun c => match c with | .val d => some d | _ => none else none
  | _ => none
noncomputable def cv (o : Option C) : Option D := o.bind fun c => match c with | .val d => some d | _ => none
noncomputable def fz (σ : Sto) (x : Nat) (o : Option R) : Option Sto := (o.bind R.toD?).map fun d => put σ x (.val d)
noncomputable def fv (σ : Sto) (x : Nat) (o : Option D) : Option Sto := o.map fun d => put σ x (.val d)
noncomputable def tk (σ : Sto) (x y k : Nat) (o : Option R) : Option Sto := match o with
  | some (.tup cs) => match cs[k]? with
    | some (.own xs) => if x = y then none else some (put (put σ y (.tup (cs.set k .gone))) x (.own xs))
    | _ => none
  | _ => none
noncomputable def tk2 (σ : Sto) (x y k : Nat) (cs : List C) (o : Option C) : Option Sto := match o with
    | some (.own xs) => if x = y then none else some (put (put σ y (.tup (cs.set k .gone))) x (.own xs))
    | _ => none
noncomputable def cs2 (o : Option D) (q : Option (List D)) : Option (List D) := o.bind fun a => q.bind fun b => some (a :: b)
end
theorem own_il (xs : List Int) : toOwn (il xs) = some (.own (dints xs)) := rfl
theorem own_lst (xs : List D) : toOwn (.lst xs) = some (.own xs) := rfl
theorem seq_il (xs : List Int) : seqD (il xs) = if xs.length ≤ 4096 then some (dints xs) else none := by
  show (if (dints xs).length ≤ 4096 then some (dints xs) else none) = _
  rw [dints_len]
theorem rng_int (n : Int) : rngD (.int n) = rangeD n := rfl
theorem negD_int (i : Int) : negD (.int i) = some (.int (-i)) := rfl
theorem toD_val (d : D) : R.toD? (.val d) = some d := rfl
theorem toD_own (xs : List D) : R.toD? (.own xs) = some (.lst xs) := rfl
theorem toD_tup (cs : List C) : R.toD? (.tup cs) = (cds cs).map .tup := rfl
theorem ctoD_val (d : D) : C.toD? (.val d) = some d := rfl
theorem ctoD_own (xs : List D) : C.toD? (.own xs) = some (.lst xs) := rfl
theorem cds_nil : cds [] = some [] := rfl
theorem cds_cons (c : C) (cs : List C) : cds (c :: cs) = cs2 c.toD? (cds cs) := rfl
theorem cs2_some (a : D) (b : List D) : cs2 (some a) (some b) = some (a :: b) := rfl
theorem rd_zero (r : Option R) (σ : Sto) : rd (r :: σ) 0 = r := rfl
theorem rd_succ (r : Option R) (σ : Sto) (n : Nat) : rd (r :: σ) (n + 1) = rd σ n := rfl
theorem put_zero (a : Option R) (σ : Sto) (r : R) : put (a :: σ) 0 r = some r :: σ := rfl
theorem put_succ (a : Option R) (σ : Sto) (n : Nat) (r : R) : put (a :: σ) (n + 1) r = a :: put σ n r := rfl
theorem asg_put (x : Nat) (d : D) (σ : Sto) : asg x d σ = some (put σ x (.val d)) := rfl
theorem puts_nil (σ : Sto) : puts [] [] σ = some σ := rfl
theorem puts_cons (x : Nat) (xs : List Nat) (d : D) (ds : List D) (σ : Sto) : puts (x :: xs) (d :: ds) σ = puts xs ds (put σ x (.val d)) := rfl
theorem rdV_ (σ : Sto) (i : Nat) : rdV σ i = toV (rd σ i) := rfl
theorem rdB_ (σ : Sto) (i : Nat) : rdB σ i = toB (rd σ i) := rfl
theorem ownOf_ (σ : Sto) (i : Nat) : ownOf σ i = toO (rd σ i) := rfl
theorem toV_val (d : D) : toV (some (.val d)) = some d := rfl
theorem toB_val (d : D) : toB (some (.val d)) = some d := rfl
theorem toB_own (xs : List D) : toB (some (.own xs)) = some (.lst xs) := rfl
theorem toO_own (xs : List D) : toO (some (.own xs)) = some xs := rfl
section
variable (Γ : Gam) (Λ : List D → Option D) (fuel : Nat) (σ : Sto)
theorem run_ (b : Ss) (n : Nat) (ds : List D) : run Γ Λ fuel b n ds = rt (execs Γ Λ fuel b (sto0 n ds)) := rfl
theorem rt_ret (r : R) : rt (some (.ret r)) = some r := rfl
theorem rt_next : rt (some (.next σ)) = some (.val .non) := rfl
theorem es_nil : execs Γ Λ fuel .nil σ = some (.next σ) := rfl
theorem es_cons (s : S) (ss : Ss) : execs Γ Λ fuel (.cons s ss) σ = nx Γ Λ fuel ss (exec Γ Λ fuel s σ) := rfl
theorem nx_next (ss : Ss) : nx Γ Λ fuel ss (some (.next σ)) = execs Γ Λ fuel ss σ := rfl
theorem nx_brk (ss : Ss) : nx Γ Λ fuel ss (some (.brk σ)) = some (.brk σ) := rfl
theorem nx_ret (ss : Ss) (r : R) : nx Γ Λ fuel ss (some (.ret r)) = some (.ret r) := rfl
theorem ex_assign (x : Nat) (e : E) : exec Γ Λ fuel (.assign x e) σ = setV σ x (ev Γ e σ) := rfl
theorem setV_some (x : Nat) (d : D) : setV σ x (some d) = some (.next (put σ x (.val d))) := rfl
theorem ex_assignO (x : Nat) (e : E) : exec Γ Λ fuel (.assignO x e) σ = setR σ x (evO Γ e σ) := rfl
theorem setR_some (x : Nat) (r : R) : setR σ x (some r) = some (.next (put σ x r)) := rfl
theorem nxt_some : nxt (some σ) = some (.next σ) := rfl
theorem ex_take (x y k : Nat) : exec Γ Λ fuel (.take x y k) σ = nxt (tk σ x y k (rd σ y)) := rfl
theorem tk_tup (x y k : Nat) (cs : List C) : tk σ x y k (some (.tup cs)) = tk2 σ x y k cs (cs[k]?) := rfl
theorem tk2_own (x y k : Nat) (cs : List C) (xs : List D) : tk2 σ x y k cs (some (.own xs)) = if x = y then none else some (put (put σ y (.tup (cs.set k .gone))) x (.own xs)) := rfl
theorem ex_frz (x : Nat) : exec Γ Λ fuel (.frz x) σ = nxt (fz σ x (rd σ x)) := rfl
theorem fz_some (x : Nat) (r : R) : fz σ x (some r) = fv σ x r.toD? := rfl
theorem fv_some (x : Nat) (d : D) : fv σ x (some d) = some (put σ x (.val d)) := rfl
theorem ex_unpack (xs : List Nat) (e : E) : exec Γ Λ fuel (.unpack xs e) σ = un xs σ (ev Γ e σ) := rfl
theorem un_tup (xs : List Nat) (ds : List D) : un xs σ (some (.tup ds)) = nxt (puts xs ds σ) := rfl
theorem ex_setidx (x : Nat) (i e : E) : exec Γ Λ fuel (.setidx x i e) σ = si x σ (ev Γ e σ) (ev Γ i σ) := rfl
theorem si_int (x : Nat) (d : D) (k : Int) : si x σ (some d) (some (.int k)) = si2 x σ d k (ownOf σ x) := rfl
theorem si2_some (x : Nat) (d : D) (k : Int) (xs : List D) : si2 x σ d k (some xs) = if 0 ≤ k ∧ k < xs.length ∧ xs.length ≤ 4096 then some (.next (put σ x (.own (xs.set k.toNat d)))) else none := rfl
theorem ex_append (x : Nat) (e : E) : exec Γ Λ fuel (.append x e) σ = ap x σ (ev Γ e σ) (ownOf σ x) := rfl
theorem ap_some (x : Nat) (d : D) (xs : List D) : ap x σ (some d) (some xs) = if xs.length < 4096 then some (.next (put σ x (.own (xs ++ [d])))) else none := rfl
theorem ex_ite (t : T) (a b : Ss) : exec Γ Λ fuel (.ite t a b) σ = br Γ Λ fuel a b σ (evT Γ t σ) := rfl
theorem br_some (a b : Ss) (c : Bool) : br Γ Λ fuel a b σ (some c) = if c then execs Γ Λ fuel a σ else execs Γ Λ fuel b σ := rfl
theorem ex_for1 (x : Nat) (it : It) (b : Ss) : exec Γ Λ fuel (.for1 x it b) σ = f1 Γ Λ fuel x b σ (evI Γ it σ) := rfl
theorem f1_some (x : Nat) (b : Ss) (xs : List D) : f1 Γ Λ fuel x b σ (some xs) = fo (asg x) (execs Γ Λ fuel b) xs σ := rfl
theorem ex_for2 (x y : Nat) (it : It) (b : Ss) : exec Γ Λ fuel (.for2 x y it b) σ = f2 Γ Λ fuel x y b σ (evI Γ it σ) := rfl
theorem f2_some (x y : Nat) (b : Ss) (xs : List D) : f2 Γ Λ fuel x y b σ (some xs) = fo (asg2 x y) (execs Γ Λ fuel b) xs σ := rfl
theorem ex_while (t : T) (b : Ss) : exec Γ Λ fuel (.while t b) σ = wh (tst Γ t) (execs Γ Λ fuel b) fuel σ := rfl
theorem ex_ret (e : E) : exec Γ Λ fuel (.ret e) σ = rv (evB Γ e σ) := rfl
theorem rv_some (d : D) : rv (some d) = some (.ret (.val d)) := rfl
theorem ex_ret2 (x y : Nat) (es : Es) : exec Γ Λ fuel (.ret2 x y es) σ = r2 x y (ownOf σ x) (ownOf σ y) (evs Γ es σ) := rfl
theorem r2_some (x y : Nat) (xs ys ds : List D) : r2 x y (some xs) (some ys) (some ds) = if x = y then none else some (.ret (.tup (.own xs :: .own ys :: ds.map .val))) := rfl
theorem ex_brk : exec Γ Λ fuel .brk σ = some (.brk σ) := rfl
theorem ex_laid (m f r : E) : exec Γ Λ fuel (.laid m f r) σ = ld Λ σ (ev Γ m σ) (ev Γ f σ) (evB Γ r σ) := rfl
theorem ld_some (m f : D) (r : Option D) : ld Λ σ (some m) (some f) r = ld2 σ (Λ [m, f]) r := rfl
theorem ld2_some (l r : D) : ld2 σ (some l) (some r) = ld3 σ (cmp2 .ne l r) := rfl
theorem ld3_some (b : Bool) : ld3 σ (some b) = some (if b then .ret (.val (.bool false)) else .next σ) := rfl
theorem evI_range (e : E) : evI Γ (.range e) σ = rg (ev Γ e σ) := rfl
theorem rg_some (d : D) : rg (some d) = rngD d := rfl
theorem evI_seq (e : E) : evI Γ (.seq e) σ = sq (ev Γ e σ) := rfl
theorem sq_some (d : D) : sq (some d) = seqD d := rfl
theorem evO_call (f : String) (es : Es) : evO Γ (.call f es) σ = cO Γ f (evs Γ es σ) := rfl
theorem cO_some (f : String) (ds : List D) : cO Γ f (some ds) = Γ f ds := rfl
theorem evO_lst (es : Es) : evO Γ (.lst es) σ = ow (ev Γ (.lst es) σ) := rfl
theorem evO_bin (op : Bop) (a b : E) : evO Γ (.bin op a b) σ = ow (ev Γ (.bin op a b) σ) := rfl
theorem evO_list (a : E) : evO Γ (.bi .list a) σ = ow (ev Γ (.bi .list a) σ) := rfl
theorem ow_some (d : D) : ow (some d) = toOwn d := rfl
theorem ev_non : ev Γ .non σ = some .non := rfl
theorem ev_bool (b : Bool) : ev Γ (.bool b) σ = some (.bool b) := rfl
theorem ev_int (i : Int) : ev Γ (.int i) σ = some (.int i) := rfl
theorem ev_str (x : Str) : ev Γ (.str x) σ = some (.str x) := rfl
theorem ev_var (i : Nat) : ev Γ (.var i) σ = toV (rd σ i) := rfl
theorem ev_bin (op : Bop) (a b : E) : ev Γ (.bin op a b) σ = bo op (evB Γ a σ) (evB Γ b σ) := rfl
theorem bo_some (op : Bop) (a b : D) : bo op (some a) (some b) = bin2 op a b := rfl
theorem ev_neg (a : E) : ev Γ (.neg a) σ = ng (ev Γ a σ) := rfl
theorem ng_some (d : D) : ng (some d) = negD d := rfl
theorem ev_cmp (op : Cop) (a b : E) : ev Γ (.cmp op a b) σ = cb op (evB Γ a σ) (evB Γ b σ) := rfl
theorem cb_some (op : Cop) (a b : D) : cb op (some a) (some b) = bl (cmp2 op a b) := rfl
theorem bl_some (b : Bool) : bl (some b) = some (.bool b) := rfl
theorem ev_ite (t : T) (a b : E) : ev Γ (.ite t a b) σ = ei Γ a b σ (evT Γ t σ) := rfl
theorem ei_some (a b : E) (c : Bool) : ei Γ a b σ (some c) = if c then ev Γ a σ else ev Γ b σ := rfl
theorem ev_call (f : String) (es : Es) : ev Γ (.call f es) σ = cl Γ f (evs Γ es σ) := rfl
theorem cl_some (f : String) (ds : List D) : cl Γ f (some ds) = rD (Γ f ds) := rfl
theorem rD_val (d : D) : rD (some (.val d)) = some d := rfl
theorem rD_own (xs : List D) : rD (some (.own xs)) = some (.lst xs) := rfl
theorem rD_tup (cs : List C) : rD (some (.tup cs)) = (cds cs).map .tup := rfl
theorem ev_bi (f : Bi) (a : E) : ev Γ (.bi f a) σ = bf f (evB Γ a σ) := rfl
theorem bf_some (f : Bi) (d : D) : bf f (some d) = bi1 f d := rfl
theorem ev_idx (a i : E) : ev Γ (.idx a i) σ = ix2 (comp? σ a i) (evB Γ a σ) (ev Γ i σ) := rfl
theorem ix_none (a b : D) : ix2 none (some a) (some b) = idx2 a b := rfl
theorem ix_some (d : D) (o q : Option D) : ix2 (some d) o q = some d := rfl
theorem cp_vi (j : Nat) (k : Int) : comp? σ (.var j) (.int k) = cpt k (rd σ j) := rfl
theorem cpt_none (k : Int) : cpt k none = none := rfl
theorem cpt_val (k : Int) (d : D) : cpt k (some (.val d)) = none := rfl
theorem cpt_own (k : Int) (xs : List D) : cpt k (some (.own xs)) = none := rfl
theorem cpt_tup (k : Int) (cs : List C) : cpt k (some (.tup cs)) = if 0 ≤ k ∧ k < 4096 then cv (cs[k.toNat]?) else none := rfl
theorem cv_val (d : D) : cv (some (.val d)) = some d := rfl
theorem cv_own (xs : List D) : cv (some (.own xs)) = none := rfl
theorem cp_vv (j i : Nat) : comp? σ (.var j) (.var i) = none := rfl
theorem cp_vb (j : Nat) (op : Bop) (a b : E) : comp? σ (.var j) (.bin op a b) = none := rfl
theorem cp_vc (j : Nat) (f : String) (es : Es) : comp? σ (.var j) (.call f es) = none := rfl
theorem cp_vx (j : Nat) (a b : E) : comp? σ (.var j) (.idx a b) = none := rfl
theorem cp_vn (j : Nat) (a : E) : comp? σ (.var j) (.neg a) = none := rfl
theorem cp_c (f : String) (es : Es) (i : E) : comp? σ (.call f es) i = none := rfl
theorem cp_x (a b i : E) : comp? σ (.idx a b) i = none := rfl
theorem cp_s (a b c i : E) : comp? σ (.slc a b c) i = none := rfl
theorem cp_b (op : Bop) (a b i : E) : comp? σ (.bin op a b) i = none := rfl
theorem cp_f (f : Bi) (a i : E) : comp? σ (.bi f a) i = none := rfl
theorem ev_slc (a lo hi : E) : ev Γ (.slc a lo hi) σ = s3 (evB Γ a σ) (ev Γ lo σ) (ev Γ hi σ) := rfl
theorem s3_some (a b c : D) : s3 (some a) (some b) (some c) = slc3 a b c := rfl
theorem ev_lst (es : Es) : ev Γ (.lst es) σ = mko (evs Γ es σ) := rfl
theorem mko_some (ds : List D) : mko (some ds) = mk ds := rfl
theorem ev_tup (es : Es) : ev Γ (.tup es) σ = tpo (evs Γ es σ) := rfl
theorem tpo_some (ds : List D) : tpo (some ds) = if ds.length ≤ 4096 then some (.tup ds) else none := rfl
theorem tpo_two (a b : D) : tpo (some [a, b]) = some (.tup [a, b]) := rfl
theorem tpo_three (a b c : D) : tpo (some [a, b, c]) = some (.tup [a, b, c]) := rfl
theorem ev_dic0 : ev Γ .dic0 σ = some (.dic [] []) := rfl
theorem ev_comp (e : E) (it : It) : ev Γ (.comp e it) σ = cm Γ e σ (evI Γ it σ) := rfl
theorem cm_some (e : E) (xs : List D) : cm Γ e σ (some xs) = mko (mapO (elt Γ e σ) xs) := rfl
theorem evs_nil : evs Γ .nil σ = some [] := rfl
theorem evs_cons (e : E) (es : Es) : evs Γ (.cons e es) σ = cn (ev Γ e σ) (evs Γ es σ) := rfl
theorem cn_some (d : D) (ds : List D) : cn (some d) (some ds) = some (d :: ds) := rfl
theorem et_cmp (op : Cop) (a b : E) : evT Γ (.cmp op a b) σ = cmo op (evB Γ a σ) (evB Γ b σ) := rfl
theorem co_some (op : Cop) (a b : D) : cmo op (some a) (some b) = cmp2 op a b := rfl
theorem et_not (t : T) : evT Γ (.not t) σ = nt (evT Γ t σ) := rfl
theorem nt_some (b : Bool) : nt (some b) = some (!b) := rfl
theorem et_and (a b : T) : evT Γ (.and a b) σ = an Γ b σ (evT Γ a σ) := rfl
theorem an_some (b : T) (x : Bool) : an Γ b σ (some x) = if x then evT Γ b σ else some false := rfl
theorem et_or (a b : T) : evT Γ (.or a b) σ = orr Γ b σ (evT Γ a σ) := rfl
theorem or_some (b : T) (x : Bool) : orr Γ b σ (some x) = if x then some true else evT Γ b σ := rfl
theorem et_ex (e : E) : evT Γ (.ex e) σ = tb (ev Γ e σ) := rfl
theorem tb_some (b : Bool) : tb (some (.bool b)) = some b := rfl
theorem eb_var (i : Nat) : evB Γ (.var i) σ = toB (rd σ i) := rfl
theorem eb_non : evB Γ .non σ = some .non := rfl
theorem eb_bool (b : Bool) : evB Γ (.bool b) σ = some (.bool b) := rfl
theorem eb_int (i : Int) : evB Γ (.int i) σ = some (.int i) := rfl
theorem eb_str (x : Str) : evB Γ (.str x) σ = some (.str x) := rfl
theorem eb_bin (op : Bop) (a b : E) : evB Γ (.bin op a b) σ = ev Γ (.bin op a b) σ := rfl
theorem eb_neg (a : E) : evB Γ (.neg a) σ = ev Γ (.neg a) σ := rfl
theorem eb_cmp (op : Cop) (a b : E) : evB Γ (.cmp op a b) σ = ev Γ (.cmp op a b) σ := rfl
theorem eb_ite (t : T) (a b : E) : evB Γ (.ite t a b) σ = ev Γ (.ite t a b) σ := rfl
theorem eb_call (f : String) (es : Es) : evB Γ (.call f es) σ = ev Γ (.call f es) σ := rfl
theorem eb_bi (f : Bi) (a : E) : evB Γ (.bi f a) σ = ev Γ (.bi f a) σ := rfl
theorem eb_idx (a b : E) : evB Γ (.idx a b) σ = ev Γ (.idx a b) σ := rfl
theorem eb_slc (a b c : E) : evB Γ (.slc a b c) σ = ev Γ (.slc a b c) σ := rfl
theorem eb_lst (es : Es) : evB Γ (.lst es) σ = ev Γ (.lst es) σ := rfl
theorem eb_tup (es : Es) : evB Γ (.tup es) σ = ev Γ (.tup es) σ := rfl
theorem eb_dic0 : evB Γ .dic0 σ = ev Γ .dic0 σ := rfl
theorem eb_comp (e : E) (it : It) : evB Γ (.comp e it) σ = ev Γ (.comp e it) σ := rfl
end

theorem look_cons (k q : Int) (ks : List Int) (d : D) (ds : List D) : look k (q :: ks) (d :: ds) = if q = k then some d else look k ks ds := rfl
theorem mapO_cons (f : D → Option D) (x : D) (xs : List D) : mapO f (x :: xs) = (f x).bind fun y => (mapO f xs).map (y :: ·) := rfl
section
variable {a : D → Sto → Option Sto} {b : Sto → Option O} {t : Sto → Option Bool} {x : D} {xs : List D} {σ σ' σ'' : Sto} {r : R} {n : Nat}
theorem fo_nil : fo a b [] σ = some (.next σ) := rfl
theorem fo_step (h1 : a x σ = some σ') (h2 : b σ' = some (.next σ'')) : fo a b (x :: xs) σ = fo a b xs σ'' := by
  show ((a x σ).bind fun σ' => (b σ').bind fun o => match o with | .next σ'' => fo a b xs σ'' | .brk σ'' => some (.next σ'') | .ret r => some (.ret r) | .exc _ => none) = _
  rw [h1]
  show ((b σ').bind fun o => match o with | .next σ'' => fo a b xs σ'' | .brk σ'' => some (.next σ'') | .ret r => some (.ret r) | .exc _ => none) = _
  rw [h2]
  rfl
theorem fo_ret (h1 : a x σ = some σ') (h2 : b σ' = some (.ret r)) : fo a b (x :: xs) σ = some (.ret r) := by
  show ((a x σ).bind fun σ' => (b σ').bind fun o => match o with | .next σ'' => fo a b xs σ'' | .brk σ'' => some (.next σ'') | .ret r => some (.ret r) | .exc _ => none) = _
  rw [h1]
  show ((b σ').bind fun o => match o with | .next σ'' => fo a b xs σ'' | .brk σ'' => some (.next σ'') | .ret r => some (.ret r) | .exc _ => none) = _
  rw [h2]
  rfl
theorem wh_no (h : t σ = some false) : wh t b (n + 1) σ = some (.next σ) := by
  show ((t σ).bind fun c => if c then (b σ).bind fun o => match o with | .next σ' => wh t b n σ' | .brk σ' => some (.next σ') | .ret r => some (.ret r) | .exc _ => none else some (.next σ)) = _
  rw [h]
  rfl
theorem wh_yes (h : t σ = some true) : wh t b (n + 1) σ = (b σ).bind fun o => match o with | .next σ' => wh t b n σ' | .brk σ' => some (.next σ') | .ret r => some (.ret r) | .exc _ => none := by
  show ((t σ).bind fun c => if c then (b σ).bind fun o => match o with | .next σ' => wh t b n σ' | .brk σ' => some (.next σ') | .ret r => some (.ret r) | .exc _ => none else some (.next σ)) = _
  rw [h]
  rfl
end
theorem gt_run {n : Nat} {f : String} {ds : List D} {b : Ss} {vs : List Str} {k : Nat} (ht : tab f = some (b, vs, k)) (hk : ds.length = k) : Gt (n + 1) f ds = run (Gt n) N0 100 b vs.length ds := by
  show (match tab f with | some (b, vs, k) => if ds.length = k then run (Gt n) (fun _ => none) 100 b vs.length ds else none | none => none) = _
  rw [ht]
  exact if_pos hk

theorem is_pointer_run (n : Nat) (w : Int) : Gt (n + 1) "is_pointer" [.int w] = some (.val (.bool (decide (w % 2 = 1)))) := by
  rw [gt_run (b := b_is_pointer) (vs := vs_is_pointer) rfl rfl]
  simp [b_is_pointer, vs_is_pointer, run_, rt_ret, rt_next, es_nil, es_cons, nx_next, nx_brk, nx_ret, ex_assign, setV_some, ex_assignO, setR_some, nxt_some, ex_take, tk_tup, tk2_own, ex_frz, fz_some, fv_some, ex_unpack, un_tup, puts_nil, puts_cons, ex_setidx, si_int, si2_some, ex_append, ap_some, ex_ite, br_some, ex_for1, f1_some, ex_for2, f2_some, ex_while, ex_ret, rv_some, ex_ret2, r2_some, ex_brk, ex_laid, ld_some, ld2_some, ld3_some, evI_range, rg_some, evI_seq, sq_some, seq_il, rng_int, evO_call, cO_some, evO_lst, evO_bin, evO_list, ow_some, own_il, own_lst, ev_non, ev_bool, ev_int, ev_str, ev_var, ev_bin, bo_some, ev_neg, ng_some, negD_int, ev_cmp, cb_some, bl_some, ev_ite, ei_some, ev_call, cl_some, rD_val, rD_own, rD_tup, ev_bi, bf_some, ev_idx, ix_none, ix_some, cp_vi, cpt_none, cpt_val, cpt_own, cpt_tup, cv_val, cv_own, cp_vv, cp_vb, cp_vc, cp_vx, cp_vn, cp_c, cp_x, cp_s, cp_b, cp_f, ev_slc, s3_some, ev_lst, mko_some, ev_tup, tpo_some, ev_dic0, ev_comp, cm_some, evs_nil, evs_cons, cn_some, et_cmp, co_some, et_not, nt_some, et_and, an_some, et_or, or_some, et_ex, tb_some, eb_var, eb_non, eb_bool, eb_int, eb_str, eb_bin, eb_neg, eb_cmp, eb_ite, eb_call, eb_bi, eb_idx, eb_slc, eb_lst, eb_tup, eb_dic0, eb_comp, rd_zero, rd_succ, put_zero, put_succ, asg_put, toV_val, toB_val, toB_own, ownOf_, toO_own, toD_val, toD_own, toD_tup, ctoD_val, ctoD_own, cds_nil, cds_cons, cs2_some, bin_add, bin_sub, bin_mul, bin_fdiv, bin_mod, bi_len, bi_list, idx_il, idx_tup, idx_dic, add_il, rep_il, mk_nil, mk_one, mk_int, mk_dints, lst_dints, lst_nil, slc_il, slc_il0, slc_il1, cmp_eq, cmp_ne, cmp_lt, cmp_le, cmp_gt, cmp_ge, cmp_in, cmp_notin, ok_int, ok_il, eqb_int, eqb_il, lid, sto0]
theorem pointer_to_run (n : Nat) (w : Int) (h : w.natAbs < 1000000) : Gt (n + 1) "pointer_to" [.int w] = some (.val (.int (2 * w + 1))) := by
  rw [gt_run (b := b_pointer_to) (vs := vs_pointer_to) rfl rfl]
  simp [b_pointer_to, vs_pointer_to, run_, rt_ret, rt_next, es_nil, es_cons, nx_next, nx_brk, nx_ret, ex_assign, setV_some, ex_assignO, setR_some, nxt_some, ex_take, tk_tup, tk2_own, ex_frz, fz_some, fv_some, ex_unpack, un_tup, puts_nil, puts_cons, ex_setidx, si_int, si2_some, ex_append, ap_some, ex_ite, br_some, ex_for1, f1_some, ex_for2, f2_some, ex_while, ex_ret, rv_some, ex_ret2, r2_some, ex_brk, ex_laid, ld_some, ld2_some, ld3_some, evI_range, rg_some, evI_seq, sq_some, seq_il, rng_int, evO_call, cO_some, evO_lst, evO_bin, evO_list, ow_some, own_il, own_lst, ev_non, ev_bool, ev_int, ev_str, ev_var, ev_bin, bo_some, ev_neg, ng_some, negD_int, ev_cmp, cb_some, bl_some, ev_ite, ei_some, ev_call, cl_some, rD_val, rD_own, rD_tup, ev_bi, bf_some, ev_idx, ix_none, ix_some, cp_vi, cpt_none, cpt_val, cpt_own, cpt_tup, cv_val, cv_own, cp_vv, cp_vb, cp_vc, cp_vx, cp_vn, cp_c, cp_x, cp_s, cp_b, cp_f, ev_slc, s3_some, ev_lst, mko_some, ev_tup, tpo_some, ev_dic0, ev_comp, cm_some, evs_nil, evs_cons, cn_some, et_cmp, co_some, et_not, nt_some, et_and, an_some, et_or, or_some, et_ex, tb_some, eb_var, eb_non, eb_bool, eb_int, eb_str, eb_bin, eb_neg, eb_cmp, eb_ite, eb_call, eb_bi, eb_idx, eb_slc, eb_lst, eb_tup, eb_dic0, eb_comp, rd_zero, rd_succ, put_zero, put_succ, asg_put, toV_val, toB_val, toB_own, ownOf_, toO_own, toD_val, toD_own, toD_tup, ctoD_val, ctoD_own, cds_nil, cds_cons, cs2_some, bin_add, bin_sub, bin_mul, bin_fdiv, bin_mod, bi_len, bi_list, idx_il, idx_tup, idx_dic, add_il, rep_il, mk_nil, mk_one, mk_int, mk_dints, lst_dints, lst_nil, slc_il, slc_il0, slc_il1, cmp_eq, cmp_ne, cmp_lt, cmp_le, cmp_gt, cmp_ge, cmp_in, cmp_notin, ok_int, ok_il, eqb_int, eqb_il, lid, sto0, h]
theorem address_of_run (n : Nat) (w : Int) : Gt (n + 1) "address_of" [.int w] = some (.val (.int (w / 2))) := by
  rw [gt_run (b := b_address_of) (vs := vs_address_of) rfl rfl]
  simp [b_address_of, vs_address_of, run_, rt_ret, rt_next, es_nil, es_cons, nx_next, nx_brk, nx_ret, ex_assign, setV_some, ex_assignO, setR_some, nxt_some, ex_take, tk_tup, tk2_own, ex_frz, fz_some, fv_some, ex_unpack, un_tup, puts_nil, puts_cons, ex_setidx, si_int, si2_some, ex_append, ap_some, ex_ite, br_some, ex_for1, f1_some, ex_for2, f2_some, ex_while, ex_ret, rv_some, ex_ret2, r2_some, ex_brk, ex_laid, ld_some, ld2_some, ld3_some, evI_range, rg_some, evI_seq, sq_some, seq_il, rng_int, evO_call, cO_some, evO_lst, evO_bin, evO_list, ow_some, own_il, own_lst, ev_non, ev_bool, ev_int, ev_str, ev_var, ev_bin, bo_some, ev_neg, ng_some, negD_int, ev_cmp, cb_some, bl_some, ev_ite, ei_some, ev_call, cl_some, rD_val, rD_own, rD_tup, ev_bi, bf_some, ev_idx, ix_none, ix_some, cp_vi, cpt_none, cpt_val, cpt_own, cpt_tup, cv_val, cv_own, cp_vv, cp_vb, cp_vc, cp_vx, cp_vn, cp_c, cp_x, cp_s, cp_b, cp_f, ev_slc, s3_some, ev_lst, mko_some, ev_tup, tpo_some, ev_dic0, ev_comp, cm_some, evs_nil, evs_cons, cn_some, et_cmp, co_some, et_not, nt_some, et_and, an_some, et_or, or_some, et_ex, tb_some, eb_var, eb_non, eb_bool, eb_int, eb_str, eb_bin, eb_neg, eb_cmp, eb_ite, eb_call, eb_bi, eb_idx, eb_slc, eb_lst, eb_tup, eb_dic0, eb_comp, rd_zero, rd_succ, put_zero, put_succ, asg_put, toV_val, toB_val, toB_own, ownOf_, toO_own, toD_val, toD_own, toD_tup, ctoD_val, ctoD_own, cds_nil, cds_cons, cs2_some, bin_add, bin_sub, bin_mul, bin_fdiv, bin_mod, bi_len, bi_list, idx_il, idx_tup, idx_dic, add_il, rep_il, mk_nil, mk_one, mk_int, mk_dints, lst_dints, lst_nil, slc_il, slc_il0, slc_il1, cmp_eq, cmp_ne, cmp_lt, cmp_le, cmp_gt, cmp_ge, cmp_in, cmp_notin, ok_int, ok_il, eqb_int, eqb_il, lid, sto0]

theorem fields_of_run (n : Nat) (pre ws post : List Int) (hm : (pre ++ (ws.length : Int) :: (ws ++ post)).length ≤ 4096) : Gt (n + 1) "fields_of" [il (pre ++ (ws.length : Int) :: (ws ++ post)), .int pre.length] = some (.val (il ws)) := by
  rw [gt_run (b := b_fields_of) (vs := vs_fields_of) rfl rfl]
  have h1 : (pre.length : Int) < 4096 := by simp at hm; lia
  have e : (pre ++ (ws.length : Int) :: (ws ++ post))[pre.length]? = some (ws.length : Int) := by simp
  have h2 : (0 : Int) ≤ (pre.length : Int) + 1 ∧ (0 : Int) ≤ (pre.length : Int) + 1 + ws.length ∧ pre.length + (ws.length + post.length + 1) ≤ 4096 := by simp at hm; lia
  simp [b_fields_of, vs_fields_of, run_, rt_ret, rt_next, es_nil, es_cons, nx_next, nx_brk, nx_ret, ex_assign, setV_some, ex_assignO, setR_some, nxt_some, ex_take, tk_tup, tk2_own, ex_frz, fz_some, fv_some, ex_unpack, un_tup, puts_nil, puts_cons, ex_setidx, si_int, si2_some, ex_append, ap_some, ex_ite, br_some, ex_for1, f1_some, ex_for2, f2_some, ex_while, ex_ret, rv_some, ex_ret2, r2_some, ex_brk, ex_laid, ld_some, ld2_some, ld3_some, evI_range, rg_some, evI_seq, sq_some, seq_il, rng_int, evO_call, cO_some, evO_lst, evO_bin, evO_list, ow_some, own_il, own_lst, ev_non, ev_bool, ev_int, ev_str, ev_var, ev_bin, bo_some, ev_neg, ng_some, negD_int, ev_cmp, cb_some, bl_some, ev_ite, ei_some, ev_call, cl_some, rD_val, rD_own, rD_tup, ev_bi, bf_some, ev_idx, ix_none, ix_some, cp_vi, cpt_none, cpt_val, cpt_own, cpt_tup, cv_val, cv_own, cp_vv, cp_vb, cp_vc, cp_vx, cp_vn, cp_c, cp_x, cp_s, cp_b, cp_f, ev_slc, s3_some, ev_lst, mko_some, ev_tup, tpo_some, ev_dic0, ev_comp, cm_some, evs_nil, evs_cons, cn_some, et_cmp, co_some, et_not, nt_some, et_and, an_some, et_or, or_some, et_ex, tb_some, eb_var, eb_non, eb_bool, eb_int, eb_str, eb_bin, eb_neg, eb_cmp, eb_ite, eb_call, eb_bi, eb_idx, eb_slc, eb_lst, eb_tup, eb_dic0, eb_comp, rd_zero, rd_succ, put_zero, put_succ, asg_put, toV_val, toB_val, toB_own, ownOf_, toO_own, toD_val, toD_own, toD_tup, ctoD_val, ctoD_own, cds_nil, cds_cons, cs2_some, bin_add, bin_sub, bin_mul, bin_fdiv, bin_mod, bi_len, bi_list, idx_il, idx_tup, idx_dic, add_il, rep_il, mk_nil, mk_one, mk_int, mk_dints, lst_dints, lst_nil, slc_il, slc_il0, slc_il1, cmp_eq, cmp_ne, cmp_lt, cmp_le, cmp_gt, cmp_ge, cmp_in, cmp_notin, ok_int, ok_il, eqb_int, eqb_il, lid, sto0, h1, h2]
  have e2 : ((pre.length : Int) + 1 + ws.length).toNat - (pre.length + 1) = ws.length := by lia
  rw [e2]
  simp

theorem law_cell_run (n : Nat) (xs : List Int) (i : Nat) (h : xs.length ≤ 63) : Gt (n + 1) "_law_cell" [il xs, .int i] = some (.val (.int (xs.getD i 0))) := by
  rw [gt_run (b := b_law_cell) (vs := vs_law_cell) rfl rfl]
  have h' : xs.length ≤ 4096 := by lia
  by_cases hi : i < xs.length
  · have h2 : (i : Int) < 4096 := by lia
    simp [b_law_cell, vs_law_cell, run_, rt_ret, rt_next, es_nil, es_cons, nx_next, nx_brk, nx_ret, ex_assign, setV_some, ex_assignO, setR_some, nxt_some, ex_take, tk_tup, tk2_own, ex_frz, fz_some, fv_some, ex_unpack, un_tup, puts_nil, puts_cons, ex_setidx, si_int, si2_some, ex_append, ap_some, ex_ite, br_some, ex_for1, f1_some, ex_for2, f2_some, ex_while, ex_ret, rv_some, ex_ret2, r2_some, ex_brk, ex_laid, ld_some, ld2_some, ld3_some, evI_range, rg_some, evI_seq, sq_some, seq_il, rng_int, evO_call, cO_some, evO_lst, evO_bin, evO_list, ow_some, own_il, own_lst, ev_non, ev_bool, ev_int, ev_str, ev_var, ev_bin, bo_some, ev_neg, ng_some, negD_int, ev_cmp, cb_some, bl_some, ev_ite, ei_some, ev_call, cl_some, rD_val, rD_own, rD_tup, ev_bi, bf_some, ev_idx, ix_none, ix_some, cp_vi, cpt_none, cpt_val, cpt_own, cpt_tup, cv_val, cv_own, cp_vv, cp_vb, cp_vc, cp_vx, cp_vn, cp_c, cp_x, cp_s, cp_b, cp_f, ev_slc, s3_some, ev_lst, mko_some, ev_tup, tpo_some, ev_dic0, ev_comp, cm_some, evs_nil, evs_cons, cn_some, et_cmp, co_some, et_not, nt_some, et_and, an_some, et_or, or_some, et_ex, tb_some, eb_var, eb_non, eb_bool, eb_int, eb_str, eb_bin, eb_neg, eb_cmp, eb_ite, eb_call, eb_bi, eb_idx, eb_slc, eb_lst, eb_tup, eb_dic0, eb_comp, rd_zero, rd_succ, put_zero, put_succ, asg_put, toV_val, toB_val, toB_own, ownOf_, toO_own, toD_val, toD_own, toD_tup, ctoD_val, ctoD_own, cds_nil, cds_cons, cs2_some, bin_add, bin_sub, bin_mul, bin_fdiv, bin_mod, bi_len, bi_list, idx_il, idx_tup, idx_dic, add_il, rep_il, mk_nil, mk_one, mk_int, mk_dints, lst_dints, lst_nil, slc_il, slc_il0, slc_il1, cmp_eq, cmp_ne, cmp_lt, cmp_le, cmp_gt, cmp_ge, cmp_in, cmp_notin, ok_int, ok_il, eqb_int, eqb_il, lid, sto0, h', hi, h2]
  · simp [b_law_cell, vs_law_cell, run_, rt_ret, rt_next, es_nil, es_cons, nx_next, nx_brk, nx_ret, ex_assign, setV_some, ex_assignO, setR_some, nxt_some, ex_take, tk_tup, tk2_own, ex_frz, fz_some, fv_some, ex_unpack, un_tup, puts_nil, puts_cons, ex_setidx, si_int, si2_some, ex_append, ap_some, ex_ite, br_some, ex_for1, f1_some, ex_for2, f2_some, ex_while, ex_ret, rv_some, ex_ret2, r2_some, ex_brk, ex_laid, ld_some, ld2_some, ld3_some, evI_range, rg_some, evI_seq, sq_some, seq_il, rng_int, evO_call, cO_some, evO_lst, evO_bin, evO_list, ow_some, own_il, own_lst, ev_non, ev_bool, ev_int, ev_str, ev_var, ev_bin, bo_some, ev_neg, ng_some, negD_int, ev_cmp, cb_some, bl_some, ev_ite, ei_some, ev_call, cl_some, rD_val, rD_own, rD_tup, ev_bi, bf_some, ev_idx, ix_none, ix_some, cp_vi, cpt_none, cpt_val, cpt_own, cpt_tup, cv_val, cv_own, cp_vv, cp_vb, cp_vc, cp_vx, cp_vn, cp_c, cp_x, cp_s, cp_b, cp_f, ev_slc, s3_some, ev_lst, mko_some, ev_tup, tpo_some, ev_dic0, ev_comp, cm_some, evs_nil, evs_cons, cn_some, et_cmp, co_some, et_not, nt_some, et_and, an_some, et_or, or_some, et_ex, tb_some, eb_var, eb_non, eb_bool, eb_int, eb_str, eb_bin, eb_neg, eb_cmp, eb_ite, eb_call, eb_bi, eb_idx, eb_slc, eb_lst, eb_tup, eb_dic0, eb_comp, rd_zero, rd_succ, put_zero, put_succ, asg_put, toV_val, toB_val, toB_own, ownOf_, toO_own, toD_val, toD_own, toD_tup, ctoD_val, ctoD_own, cds_nil, cds_cons, cs2_some, bin_add, bin_sub, bin_mul, bin_fdiv, bin_mod, bi_len, bi_list, idx_il, idx_tup, idx_dic, add_il, rep_il, mk_nil, mk_one, mk_int, mk_dints, lst_dints, lst_nil, slc_il, slc_il0, slc_il1, cmp_eq, cmp_ne, cmp_lt, cmp_le, cmp_gt, cmp_ge, cmp_in, cmp_notin, ok_int, ok_il, eqb_int, eqb_il, lid, sto0, h', hi]
end Mine

set_option maxRecDepth 10000
set_option linter.unusedSimpArgs false
set_option linter.unusedVariables false
namespace Mine
open PySem

theorem fo_list {a : D → Sto → Option Sto} {b : Sto → Option O} (P : List D → Sto → Prop) (Q : O → Prop) (hend : ∀ σ, P [] σ → Q (.next σ))
    (hstep : ∀ x r σ, P (x :: r) σ → ∃ σ' o, a x σ = some σ' ∧ b σ' = some o ∧ (match o with | .next σ'' => P r σ'' | .ret v => Q (.ret v) | _ => False)) : ∀ xs σ, P xs σ → ∃ o, fo a b xs σ = some o ∧ Q o
  | [], σ, h => ⟨_, rfl, hend σ h⟩
  | x :: r, σ, h => by
    obtain ⟨σ', o, h1, h2, h3⟩ := hstep x r σ h
    cases o with
    | next σ'' =>
      obtain ⟨o', h4, h5⟩ := fo_list P Q hend hstep r σ'' h3
      exact ⟨o', (fo_step h1 h2).trans h4, h5⟩
    | ret v => exact ⟨.ret v, fo_ret h1 h2, h3⟩
    | brk _ => exact h3.elim
    | exc _ => exact h3.elim

theorem wh_ok {t : Sto → Option Bool} {b : Sto → Option O} (P : Nat → Sto → Prop) (Q : O → Prop)
    (h : ∀ n σ, P n σ → ∃ c, t σ = some c ∧ (c = false → Q (.next σ)) ∧ (c = true → ∃ o, b σ = some o ∧ match o with | .next σ' => ∃ m, m < n ∧ P m σ' | .brk σ' => Q (.next σ') | .ret v => Q (.ret v) | .exc _ => False)) :
    ∀ fuel n σ, n < fuel → P n σ → ∃ o, wh t b fuel σ = some o ∧ Q o
  | 0, n, σ, hf, _ => by lia
  | fuel + 1, n, σ, hf, hp => by
    obtain ⟨c, ht, h0, h1⟩ := h n σ hp
    cases c with
    | false => exact ⟨.next σ, wh_no ht, h0 rfl⟩
    | true =>
      obtain ⟨o, hb, ho⟩ := h1 rfl
      cases o with
      | next σ' =>
        obtain ⟨m, hm, hp'⟩ := ho
        obtain ⟨o', h4, h5⟩ := wh_ok P Q h fuel m σ' (by lia) hp'
        exact ⟨o', (wh_yes ht).trans (by rw [hb]; exact h4), h5⟩
      | brk σ' => exact ⟨.next σ', (wh_yes ht).trans (by rw [hb]; rfl), ho⟩
      | ret v => exact ⟨.ret v, (wh_yes ht).trans (by rw [hb]; rfl), ho⟩
      | exc _ => exact ho.elim

inductive Bk where
  | free (n : Nat)
  | obj (ws : List Int)
noncomputable def Bk.flat : Bk → List Int
  | .free n => (-((n : Int) + 1)) :: List.replicate n 0
  | .obj ws => (ws.length : Int) :: ws
noncomputable def Bk.size : Bk → Nat
  | .free n => n + 1
  | .obj ws => ws.length + 1
noncomputable def Bk.isFree : Bk → Bool
  | .free _ => true
  | .obj _ => false
noncomputable def flat : List Bk → List Int
  | [] => []
  | b :: bs => b.flat ++ flat bs
theorem Bk.flat_len (b : Bk) : b.flat.length = b.size := by cases b <;> simp [Bk.flat, Bk.size]
theorem Bk.size_pos (b : Bk) : 0 < b.size := by cases b <;> simp [Bk.size]
noncomputable def bks (off : Nat) : List Bk → List D
  | [] => []
  | b :: bs => .tup [.int off, .int b.size, .bool b.isFree] :: bks (off + b.size) bs
theorem Bk.head (b : Bk) : ∃ h r, b.flat = h :: r ∧ (if h ≥ 0 then h + 1 else -h) = (b.size : Int) ∧ decide (h < 0) = b.isFree := by
  cases b with
  | free n => exact ⟨_, _, rfl, by simp [Bk.size] <;> lia, by simp [Bk.isFree] <;> lia⟩
  | obj ws => exact ⟨_, _, rfl, by simp [Bk.size], by simp [Bk.isFree]⟩

theorem bks_len : ∀ (bs : List Bk) (off : Nat), (bks off bs).length ≤ (flat bs).length
  | [], _ => by simp [bks]
  | b :: bs, off => by
    have := bks_len bs (off + b.size)
    have := b.size_pos
    simp [bks, flat, b.flat_len]
    lia

noncomputable def rngI (j k : Nat) : List D := (List.range' j k).map fun (i : Nat) => D.int (i : Int)
theorem rngI_succ (j k : Nat) : rngI j (k + 1) = .int j :: rngI (j + 1) k := by simp [rngI, List.range'_succ]
theorem rng_end {i m : Nat} (hi : i ≤ m) (h : [] = rngI i (m - i)) : i = m := by
  cases e : m - i with
  | zero => exact Nat.le_antisymm hi (Nat.le_of_sub_eq_zero e)
  | succ j => rw [e, rngI_succ] at h; cases h
theorem rng_more {x : D} {rr : List D} {i m : Nat} (h : x :: rr = rngI i (m - i)) : i < m ∧ x = .int i ∧ rr = rngI (i + 1) (m - (i + 1)) := by
  cases e : m - i with
  | zero => rw [e] at h; cases h
  | succ j =>
    rw [e, rngI_succ] at h
    cases h
    exact ⟨Nat.lt_of_sub_eq_succ e, rfl, by rw [Nat.sub_succ, e]; rfl⟩
theorem rangeD_nat (n : Nat) (h : n ≤ 4096) : rangeD (n : Int) = some (rngI 0 n) := by
  simp [rangeD, lid, rngI, List.range_eq_range', h]
  lia

noncomputable def BlkQ (bs : List Bk) (tail : List Int) : O → Prop
  | .next σ => tail = [] ∧ rd σ 1 = some (.own (bks 0 bs))
  | .ret r => tail = [1] ∧ r = .val .non
  | _ => False

theorem blocks_loop (n : Nat) (bs₀ : List Bk) (tail : List Int) (ht : tail = [] ∨ tail = [1]) (hlen : (flat bs₀ ++ tail).length < 4096) :
    ∃ o, fo (asg 3) (execs (Gt n) N0 100 l_blocks_of_1) (rngI 0 (flat bs₀ ++ tail).length) [some (.val (il (flat bs₀ ++ tail))), some (.own []), some (.val (.int 0)), none, none, none] = some o ∧ BlkQ bs₀ tail o := by
  refine fo_list (fun rem σ => ∃ (j : Nat) (bs : List Bk) (pre : List Int) (BL : List D) (jv hv nv : Option R), rem = rngI j ((flat bs₀ ++ tail).length - j) ∧ j ≤ pre.length ∧ flat bs₀ ++ tail = pre ++ (flat bs ++ tail) ∧ BL ++ bks pre.length bs = bks 0 bs₀ ∧
    σ = [some (.val (il (flat bs₀ ++ tail))), some (.own BL), some (.val (.int pre.length)), jv, hv, nv]) (BlkQ bs₀ tail) ?_ ?_ _ _ ⟨0, bs₀, [], [], none, none, none, rfl, by simp, by simp, by simp, by simp⟩
  · rintro σ ⟨j, bs, pre, BL, jv, hv, nv, hr, hj, hm, hB, rfl⟩
    have hl : (flat bs₀ ++ tail).length - j = 0 := by
      have := congrArg List.length hr
      simp [rngI] at this
      simp; lia
    have hl2 := congrArg List.length hm
    simp only [List.length_append] at hl hl2
    have hbs : bs = [] := by
      cases bs with
      | nil => rfl
      | cons b bs => have := b.size_pos; simp [flat, b.flat_len] at hl2; lia
    subst hbs
    simp [flat] at hl2
    have htl : tail = [] := List.eq_nil_of_length_eq_zero (by lia)
    refine ⟨htl, ?_⟩
    simp [bks] at hB
    simp [rd, hB]
  · rintro x r σ ⟨j, bs, pre, BL, jv, hv, nv, hr, hj, hm, hB, rfl⟩
    have hl2 := congrArg List.length hm
    simp only [List.length_append] at hl2 hlen
    have hjl : j < (flat bs₀ ++ tail).length := by
      have := congrArg List.length hr
      simp [rngI] at this
      simp; lia
    obtain ⟨k, hk⟩ : ∃ k, (flat bs₀ ++ tail).length - j = k + 1 := ⟨(flat bs₀ ++ tail).length - j - 1, by lia⟩
    rw [hk, rngI_succ] at hr
    cases hr
    have hk' : (flat bs₀ ++ tail).length - (j + 1) = k := by lia
    simp only [List.length_append] at hjl hk'
    have hle : (flat bs₀).length + tail.length ≤ 4096 := by lia
    have hj4 : (j : Int) < 4096 := by lia
    have hBl : BL.length < 4096 := by
      have h1 := congrArg List.length hB
      have h2 := bks_len bs₀ 0
      simp at h1
      lia
    refine ⟨[some (.val (il (flat bs₀ ++ tail))), some (.own BL), some (.val (.int pre.length)), some (.val (.int j)), hv, nv], ?_⟩
    by_cases hja : j = pre.length
    · have hja' : (j : Int) = pre.length := by lia
      cases bs with
      | nil =>
        rcases ht with rfl | rfl
        · simp [flat] at hl2 hjl; lia
        · have hg : (flat bs₀ ++ [(1 : Int)])[j]? = some 1 := by rw [hm, hja]; simp [flat]
          refine ⟨.ret (.val .non), rfl, ?_, rfl, rfl⟩
          have e1 : ((flat bs₀).length : Int) + 1 < pre.length + 2 := by simp [flat] at hl2; lia
          have hle' : (flat bs₀).length + 1 ≤ 4096 := by simpa using hle
          rw [hja] at hg
          subst hja
          simp [l_blocks_of_1, run_, rt_ret, rt_next, es_nil, es_cons, nx_next, nx_brk, nx_ret, ex_assign, setV_some, ex_assignO, setR_some, nxt_some, ex_take, tk_tup, tk2_own, ex_frz, fz_some, fv_some, ex_unpack, un_tup, puts_nil, puts_cons, ex_setidx, si_int, si2_some, ex_append, ap_some, ex_ite, br_some, ex_for1, f1_some, ex_for2, f2_some, ex_while, ex_ret, rv_some, ex_ret2, r2_some, ex_brk, ex_laid, ld_some, ld2_some, ld3_some, evI_range, rg_some, evI_seq, sq_some, seq_il, rng_int, evO_call, cO_some, evO_lst, evO_bin, evO_list, ow_some, own_il, own_lst, ev_non, ev_bool, ev_int, ev_str, ev_var, ev_bin, bo_some, ev_neg, ng_some, negD_int, ev_cmp, cb_some, bl_some, ev_ite, ei_some, ev_call, cl_some, rD_val, rD_own, rD_tup, ev_bi, bf_some, ev_idx, ix_none, ix_some, cp_vi, cpt_none, cpt_val, cpt_own, cpt_tup, cv_val, cv_own, cp_vv, cp_vb, cp_vc, cp_vx, cp_vn, cp_c, cp_x, cp_s, cp_b, cp_f, ev_slc, s3_some, ev_lst, mko_some, ev_tup, tpo_some, ev_dic0, ev_comp, cm_some, evs_nil, evs_cons, cn_some, et_cmp, co_some, et_not, nt_some, et_and, an_some, et_or, or_some, et_ex, tb_some, eb_var, eb_non, eb_bool, eb_int, eb_str, eb_bin, eb_neg, eb_cmp, eb_ite, eb_call, eb_bi, eb_idx, eb_slc, eb_lst, eb_tup, eb_dic0, eb_comp, rd_zero, rd_succ, put_zero, put_succ, asg_put, toV_val, toB_val, toB_own, ownOf_, toO_own, toD_val, toD_own, toD_tup, ctoD_val, ctoD_own, cds_nil, cds_cons, cs2_some, bin_add, bin_sub, bin_mul, bin_fdiv, bin_mod, bi_len, bi_list, idx_il, idx_tup, idx_dic, add_il, rep_il, mk_nil, mk_one, mk_int, mk_dints, lst_dints, lst_nil, slc_il, slc_il0, slc_il1, cmp_eq, cmp_ne, cmp_lt, cmp_le, cmp_gt, cmp_ge, cmp_in, cmp_notin, ok_int, ok_il, eqb_int, eqb_il, lid, sto0, hg, hj4, hle', e1]
      | cons b bs =>
        obtain ⟨h, rr, hf, hs, hn⟩ := b.head
        have hg : (flat bs₀ ++ tail)[j]? = some h := by rw [hm, hja]; simp [flat, hf]
        have hsz := b.flat_len
        simp only [flat, List.length_append] at hl2
        refine ⟨.next [some (.val (il (flat bs₀ ++ tail))), some (.own (BL ++ [.tup [.int j, .int b.size, .bool b.isFree]])), some (.val (.int ((pre ++ b.flat).length : Nat))), some (.val (.int j)), some (.val (.int h)), some (.val (.int b.size))], rfl, ?_, j + 1, bs, pre ++ b.flat, _, _, _, _, by simp [hk'], ?_, by rw [hm]; simp [flat], ?_, rfl⟩
        · have e1 : ¬ ((flat bs₀).length : Int) + tail.length < pre.length + b.size := by lia
          rw [hja] at hg
          subst hja
          by_cases h0 : h ≥ 0
          · have hsz' : h + 1 = b.size := by rw [if_pos h0] at hs; exact hs
            have hn' : b.isFree = false := by rw [← hn]; simp; lia
            have h00 : (0 : Int) ≤ h := h0
            have hlt : ¬ h < 0 := by lia
            simp [l_blocks_of_1, run_, rt_ret, rt_next, es_nil, es_cons, nx_next, nx_brk, nx_ret, ex_assign, setV_some, ex_assignO, setR_some, nxt_some, ex_take, tk_tup, tk2_own, ex_frz, fz_some, fv_some, ex_unpack, un_tup, puts_nil, puts_cons, ex_setidx, si_int, si2_some, ex_append, ap_some, ex_ite, br_some, ex_for1, f1_some, ex_for2, f2_some, ex_while, ex_ret, rv_some, ex_ret2, r2_some, ex_brk, ex_laid, ld_some, ld2_some, ld3_some, evI_range, rg_some, evI_seq, sq_some, seq_il, rng_int, evO_call, cO_some, evO_lst, evO_bin, evO_list, ow_some, own_il, own_lst, ev_non, ev_bool, ev_int, ev_str, ev_var, ev_bin, bo_some, ev_neg, ng_some, negD_int, ev_cmp, cb_some, bl_some, ev_ite, ei_some, ev_call, cl_some, rD_val, rD_own, rD_tup, ev_bi, bf_some, ev_idx, ix_none, ix_some, cp_vi, cpt_none, cpt_val, cpt_own, cpt_tup, cv_val, cv_own, cp_vv, cp_vb, cp_vc, cp_vx, cp_vn, cp_c, cp_x, cp_s, cp_b, cp_f, ev_slc, s3_some, ev_lst, mko_some, ev_tup, tpo_some, ev_dic0, ev_comp, cm_some, evs_nil, evs_cons, cn_some, et_cmp, co_some, et_not, nt_some, et_and, an_some, et_or, or_some, et_ex, tb_some, eb_var, eb_non, eb_bool, eb_int, eb_str, eb_bin, eb_neg, eb_cmp, eb_ite, eb_call, eb_bi, eb_idx, eb_slc, eb_lst, eb_tup, eb_dic0, eb_comp, rd_zero, rd_succ, put_zero, put_succ, asg_put, toV_val, toB_val, toB_own, ownOf_, toO_own, toD_val, toD_own, toD_tup, ctoD_val, ctoD_own, cds_nil, cds_cons, cs2_some, bin_add, bin_sub, bin_mul, bin_fdiv, bin_mod, bi_len, bi_list, idx_il, idx_tup, idx_dic, add_il, rep_il, mk_nil, mk_one, mk_int, mk_dints, lst_dints, lst_nil, slc_il, slc_il0, slc_il1, cmp_eq, cmp_ne, cmp_lt, cmp_le, cmp_gt, cmp_ge, cmp_in, cmp_notin, ok_int, ok_il, eqb_int, eqb_il, lid, sto0, hg, hj4, hle, h00, hsz', e1, hn', hBl, hsz, hlt]
          · have hsz' : -h = b.size := by rw [if_neg h0] at hs; exact hs
            have hn' : b.isFree = true := by rw [← hn]; simp; lia
            have h00 : ¬ (0 : Int) ≤ h := h0
            have hlt : h < 0 := by lia
            simp [l_blocks_of_1, run_, rt_ret, rt_next, es_nil, es_cons, nx_next, nx_brk, nx_ret, ex_assign, setV_some, ex_assignO, setR_some, nxt_some, ex_take, tk_tup, tk2_own, ex_frz, fz_some, fv_some, ex_unpack, un_tup, puts_nil, puts_cons, ex_setidx, si_int, si2_some, ex_append, ap_some, ex_ite, br_some, ex_for1, f1_some, ex_for2, f2_some, ex_while, ex_ret, rv_some, ex_ret2, r2_some, ex_brk, ex_laid, ld_some, ld2_some, ld3_some, evI_range, rg_some, evI_seq, sq_some, seq_il, rng_int, evO_call, cO_some, evO_lst, evO_bin, evO_list, ow_some, own_il, own_lst, ev_non, ev_bool, ev_int, ev_str, ev_var, ev_bin, bo_some, ev_neg, ng_some, negD_int, ev_cmp, cb_some, bl_some, ev_ite, ei_some, ev_call, cl_some, rD_val, rD_own, rD_tup, ev_bi, bf_some, ev_idx, ix_none, ix_some, cp_vi, cpt_none, cpt_val, cpt_own, cpt_tup, cv_val, cv_own, cp_vv, cp_vb, cp_vc, cp_vx, cp_vn, cp_c, cp_x, cp_s, cp_b, cp_f, ev_slc, s3_some, ev_lst, mko_some, ev_tup, tpo_some, ev_dic0, ev_comp, cm_some, evs_nil, evs_cons, cn_some, et_cmp, co_some, et_not, nt_some, et_and, an_some, et_or, or_some, et_ex, tb_some, eb_var, eb_non, eb_bool, eb_int, eb_str, eb_bin, eb_neg, eb_cmp, eb_ite, eb_call, eb_bi, eb_idx, eb_slc, eb_lst, eb_tup, eb_dic0, eb_comp, rd_zero, rd_succ, put_zero, put_succ, asg_put, toV_val, toB_val, toB_own, ownOf_, toO_own, toD_val, toD_own, toD_tup, ctoD_val, ctoD_own, cds_nil, cds_cons, cs2_some, bin_add, bin_sub, bin_mul, bin_fdiv, bin_mod, bi_len, bi_list, idx_il, idx_tup, idx_dic, add_il, rep_il, mk_nil, mk_one, mk_int, mk_dints, lst_dints, lst_nil, slc_il, slc_il0, slc_il1, cmp_eq, cmp_ne, cmp_lt, cmp_le, cmp_gt, cmp_ge, cmp_in, cmp_notin, ok_int, ok_il, eqb_int, eqb_il, lid, sto0, hg, hj4, hle, h00, hsz', e1, hn', hBl, hsz, hlt]
        · have := b.size_pos; simp [hsz]; lia
        · rw [← hB, hja]; simp [bks, hsz]
    · refine ⟨.next [some (.val (il (flat bs₀ ++ tail))), some (.own BL), some (.val (.int pre.length)), some (.val (.int j)), hv, nv], rfl, ?_, j + 1, bs, pre, BL, _, hv, nv, by simp [hk'], by lia, hm, hB, rfl⟩
      have hja' : ¬ (j : Int) = pre.length := by lia
      simp [l_blocks_of_1, run_, rt_ret, rt_next, es_nil, es_cons, nx_next, nx_brk, nx_ret, ex_assign, setV_some, ex_assignO, setR_some, nxt_some, ex_take, tk_tup, tk2_own, ex_frz, fz_some, fv_some, ex_unpack, un_tup, puts_nil, puts_cons, ex_setidx, si_int, si2_some, ex_append, ap_some, ex_ite, br_some, ex_for1, f1_some, ex_for2, f2_some, ex_while, ex_ret, rv_some, ex_ret2, r2_some, ex_brk, ex_laid, ld_some, ld2_some, ld3_some, evI_range, rg_some, evI_seq, sq_some, seq_il, rng_int, evO_call, cO_some, evO_lst, evO_bin, evO_list, ow_some, own_il, own_lst, ev_non, ev_bool, ev_int, ev_str, ev_var, ev_bin, bo_some, ev_neg, ng_some, negD_int, ev_cmp, cb_some, bl_some, ev_ite, ei_some, ev_call, cl_some, rD_val, rD_own, rD_tup, ev_bi, bf_some, ev_idx, ix_none, ix_some, cp_vi, cpt_none, cpt_val, cpt_own, cpt_tup, cv_val, cv_own, cp_vv, cp_vb, cp_vc, cp_vx, cp_vn, cp_c, cp_x, cp_s, cp_b, cp_f, ev_slc, s3_some, ev_lst, mko_some, ev_tup, tpo_some, ev_dic0, ev_comp, cm_some, evs_nil, evs_cons, cn_some, et_cmp, co_some, et_not, nt_some, et_and, an_some, et_or, or_some, et_ex, tb_some, eb_var, eb_non, eb_bool, eb_int, eb_str, eb_bin, eb_neg, eb_cmp, eb_ite, eb_call, eb_bi, eb_idx, eb_slc, eb_lst, eb_tup, eb_dic0, eb_comp, rd_zero, rd_succ, put_zero, put_succ, asg_put, toV_val, toB_val, toB_own, ownOf_, toO_own, toD_val, toD_own, toD_tup, ctoD_val, ctoD_own, cds_nil, cds_cons, cs2_some, bin_add, bin_sub, bin_mul, bin_fdiv, bin_mod, bi_len, bi_list, idx_il, idx_tup, idx_dic, add_il, rep_il, mk_nil, mk_one, mk_int, mk_dints, lst_dints, lst_nil, slc_il, slc_il0, slc_il1, cmp_eq, cmp_ne, cmp_lt, cmp_le, cmp_gt, cmp_ge, cmp_in, cmp_notin, ok_int, ok_il, eqb_int, eqb_il, lid, sto0, hja']

theorem blocks_run (n : Nat) (bs : List Bk) (h : (flat bs).length < 4096) : Gt (n + 1) "blocks_of" [il (flat bs)] = some (.val (.lst (bks 0 bs))) := by
  rw [gt_run (b := b_blocks_of) (vs := vs_blocks_of) rfl rfl]
  obtain ⟨o, ho, hq⟩ := blocks_loop n bs [] (.inl rfl) (by simpa using h)
  have h' : (flat bs).length ≤ 4096 := by lia
  rw [List.append_nil] at ho
  cases o with
  | next σ =>
    obtain ⟨_, hr⟩ := hq
    have e := rangeD_nat (flat bs).length h'
    simp [b_blocks_of, vs_blocks_of, run_, rt_ret, rt_next, es_nil, es_cons, nx_next, nx_brk, nx_ret, ex_assign, setV_some, ex_assignO, setR_some, nxt_some, ex_take, tk_tup, tk2_own, ex_frz, fz_some, fv_some, ex_unpack, un_tup, puts_nil, puts_cons, ex_setidx, si_int, si2_some, ex_append, ap_some, ex_ite, br_some, ex_for1, f1_some, ex_for2, f2_some, ex_while, ex_ret, rv_some, ex_ret2, r2_some, ex_brk, ex_laid, ld_some, ld2_some, ld3_some, evI_range, rg_some, evI_seq, sq_some, seq_il, rng_int, evO_call, cO_some, evO_lst, evO_bin, evO_list, ow_some, own_il, own_lst, ev_non, ev_bool, ev_int, ev_str, ev_var, ev_bin, bo_some, ev_neg, ng_some, negD_int, ev_cmp, cb_some, bl_some, ev_ite, ei_some, ev_call, cl_some, rD_val, rD_own, rD_tup, ev_bi, bf_some, ev_idx, ix_none, ix_some, cp_vi, cpt_none, cpt_val, cpt_own, cpt_tup, cv_val, cv_own, cp_vv, cp_vb, cp_vc, cp_vx, cp_vn, cp_c, cp_x, cp_s, cp_b, cp_f, ev_slc, s3_some, ev_lst, mko_some, ev_tup, tpo_some, ev_dic0, ev_comp, cm_some, evs_nil, evs_cons, cn_some, et_cmp, co_some, et_not, nt_some, et_and, an_some, et_or, or_some, et_ex, tb_some, eb_var, eb_non, eb_bool, eb_int, eb_str, eb_bin, eb_neg, eb_cmp, eb_ite, eb_call, eb_bi, eb_idx, eb_slc, eb_lst, eb_tup, eb_dic0, eb_comp, rd_zero, rd_succ, put_zero, put_succ, asg_put, toV_val, toB_val, toB_own, ownOf_, toO_own, toD_val, toD_own, toD_tup, ctoD_val, ctoD_own, cds_nil, cds_cons, cs2_some, bin_add, bin_sub, bin_mul, bin_fdiv, bin_mod, bi_len, bi_list, idx_il, idx_tup, idx_dic, add_il, rep_il, mk_nil, mk_one, mk_int, mk_dints, lst_dints, lst_nil, slc_il, slc_il0, slc_il1, cmp_eq, cmp_ne, cmp_lt, cmp_le, cmp_gt, cmp_ge, cmp_in, cmp_notin, ok_int, ok_il, eqb_int, eqb_il, lid, sto0, dints_nil, h', e, ho, hr]
  | ret r => exact absurd hq.1 (by simp)
  | brk _ => exact hq.elim
  | exc _ => exact hq.elim
theorem blocks_bad (n : Nat) (bs : List Bk) (h : (flat bs).length < 4000) : Gt (n + 1) "blocks_of" [il (flat bs ++ [1])] = some (.val .non) := by
  rw [gt_run (b := b_blocks_of) (vs := vs_blocks_of) rfl rfl]
  obtain ⟨o, ho, hq⟩ := blocks_loop n bs [1] (.inr rfl) (by simp; lia)
  have h' : (flat bs ++ [1]).length ≤ 4096 := by simp; lia
  cases o with
  | next σ => exact absurd hq.1 (by simp)
  | ret r =>
    obtain ⟨_, rfl⟩ := hq
    have e := rangeD_nat (flat bs ++ [1]).length h'
    simp [b_blocks_of, vs_blocks_of, run_, rt_ret, rt_next, es_nil, es_cons, nx_next, nx_brk, nx_ret, ex_assign, setV_some, ex_assignO, setR_some, nxt_some, ex_take, tk_tup, tk2_own, ex_frz, fz_some, fv_some, ex_unpack, un_tup, puts_nil, puts_cons, ex_setidx, si_int, si2_some, ex_append, ap_some, ex_ite, br_some, ex_for1, f1_some, ex_for2, f2_some, ex_while, ex_ret, rv_some, ex_ret2, r2_some, ex_brk, ex_laid, ld_some, ld2_some, ld3_some, evI_range, rg_some, evI_seq, sq_some, seq_il, rng_int, evO_call, cO_some, evO_lst, evO_bin, evO_list, ow_some, own_il, own_lst, ev_non, ev_bool, ev_int, ev_str, ev_var, ev_bin, bo_some, ev_neg, ng_some, negD_int, ev_cmp, cb_some, bl_some, ev_ite, ei_some, ev_call, cl_some, rD_val, rD_own, rD_tup, ev_bi, bf_some, ev_idx, ix_none, ix_some, cp_vi, cpt_none, cpt_val, cpt_own, cpt_tup, cv_val, cv_own, cp_vv, cp_vb, cp_vc, cp_vx, cp_vn, cp_c, cp_x, cp_s, cp_b, cp_f, ev_slc, s3_some, ev_lst, mko_some, ev_tup, tpo_some, ev_dic0, ev_comp, cm_some, evs_nil, evs_cons, cn_some, et_cmp, co_some, et_not, nt_some, et_and, an_some, et_or, or_some, et_ex, tb_some, eb_var, eb_non, eb_bool, eb_int, eb_str, eb_bin, eb_neg, eb_cmp, eb_ite, eb_call, eb_bi, eb_idx, eb_slc, eb_lst, eb_tup, eb_dic0, eb_comp, rd_zero, rd_succ, put_zero, put_succ, asg_put, toV_val, toB_val, toB_own, ownOf_, toO_own, toD_val, toD_own, toD_tup, ctoD_val, ctoD_own, cds_nil, cds_cons, cs2_some, bin_add, bin_sub, bin_mul, bin_fdiv, bin_mod, bi_len, bi_list, idx_il, idx_tup, idx_dic, add_il, rep_il, mk_nil, mk_one, mk_int, mk_dints, lst_dints, lst_nil, slc_il, slc_il0, slc_il1, cmp_eq, cmp_ne, cmp_lt, cmp_le, cmp_gt, cmp_ge, cmp_in, cmp_notin, ok_int, ok_il, eqb_int, eqb_il, lid, sto0, dints_nil, e, ho, h', -List.length_append]
  | brk _ => exact hq.elim
  | exc _ => exact hq.elim
end Mine

set_option maxRecDepth 10000
set_option linter.unusedSimpArgs false
set_option linter.unusedVariables false
namespace Mine
open PySem

/-- the walk over words: how many steps, what was met, what is to be looked at, what is met at the end -/
inductive Go (f : Int → List Int) : Nat → List Int → List Int → List Int → Prop
  | nil {met} : Go f 0 met [] met
  | skip {k met w q r} : ¬ (w % 2 = 1 ∧ w / 2 ∉ met) → Go f k met q r → Go f (k + 1) met (w :: q) r
  | new {k met w q r} : w % 2 = 1 → w / 2 ∉ met → Go f k (met ++ [w / 2]) (q ++ f (w / 2)) r → Go f (k + 1) met (w :: q) r
noncomputable def add (met : List Int) (w : Int) : List Int := if w % 2 = 1 ∧ w / 2 ∉ met then met ++ [w / 2] else met

section
variable {f : Int → List Int}
theorem Go.mem {k : Nat} {met q r : List Int} (g : Go f k met q r) : ∀ a ∈ met, a ∈ r := by
  induction g with
  | nil => exact fun a h => h
  | skip _ _ ih => exact ih
  | new _ _ _ ih => exact fun a h => ih a (List.mem_append_left _ h)
theorem Go.len {k : Nat} {met q r : List Int} (g : Go f k met q r) : met.length ≤ r.length ∧ q.length ≤ k := by
  induction g with
  | nil => simp
  | skip _ _ ih => simp; lia
  | new _ _ _ ih => simp at ih ⊢; lia
theorem Go.nodup {k : Nat} {met q r : List Int} (g : Go f k met q r) (h : met.Nodup) : r.Nodup := by
  induction g with
  | nil => exact h
  | skip _ _ ih => exact ih h
  | new _ hn _ ih => exact ih (List.nodup_append.mpr ⟨h, by simp, fun a ha b hb => by simp at hb; subst hb; exact fun e => hn (e ▸ ha)⟩)
theorem Go.sub {k : Nat} {met q r : List Int} {K : Int → Prop} (g : Go f k met q r) (hm : ∀ a ∈ met, K a) (hq : ∀ w ∈ q, w % 2 = 1 → K (w / 2)) (hf : ∀ a, K a → ∀ w ∈ f a, w % 2 = 1 → K (w / 2)) : ∀ a ∈ r, K a := by
  induction g with
  | nil => exact hm
  | skip _ _ ih => exact ih hm fun w h => hq w (.tail _ h)
  | new h1 _ _ ih =>
    have hk := hq _ (.head _) h1
    refine ih (fun a h => ?_) fun w h => ?_
    · rcases List.mem_append.mp h with h | h
      · exact hm a h
      · rw [List.mem_singleton.mp h]; exact hk
    · rcases List.mem_append.mp h with h | h
      · exact hq w (.tail _ h)
      · exact hf _ hk w h
theorem Go.closed {k : Nat} {met q r : List Int} (g : Go f k met q r) : (∀ w ∈ q, w % 2 = 1 → w / 2 ∈ r) ∧ ∀ a ∈ r, a ∉ met → ∀ w ∈ f a, w % 2 = 1 → w / 2 ∈ r := by
  induction g with
  | nil => exact ⟨fun w h => (nomatch h), fun a h1 h2 => absurd h1 h2⟩
  | @skip k met w q r hs g ih =>
    refine ⟨fun x h hx => ?_, ih.2⟩
    rcases List.mem_cons.mp h with rfl | h
    · have : x / 2 ∈ met := Classical.byContradiction fun q => hs ⟨hx, q⟩
      exact g.mem _ this
    · exact ih.1 x h hx
  | @new k met w q r h1 h2 g ih =>
    refine ⟨fun x h hx => ?_, fun a ha hna x hx h => ?_⟩
    · rcases List.mem_cons.mp h with rfl | h
      · exact g.mem _ (by simp)
      · exact ih.1 x (List.mem_append_left _ h) hx
    · by_cases e : a = w / 2
      · subst e
        exact ih.1 x (List.mem_append_right _ hx) h
      · exact ih.2 a ha (by simp [hna, e]) x hx h
theorem Go.fold {k : Nat} {met r : List Int} {p : Nat} (l : List Int) (g : Go f k met (l ++ (met.drop p).flatMap f) r) (hp : p ≤ met.length) : ∃ k', Go f k' (l.foldl add met) (((l.foldl add met).drop p).flatMap f) r := by
  induction l generalizing met k with
  | nil => exact ⟨k, g⟩
  | cons w l ih =>
    rw [List.cons_append] at g
    cases g with
    | skip h g => rw [List.foldl_cons, add, if_neg h]; exact ih g hp
    | new h1 h2 g =>
      rw [List.foldl_cons, add, if_pos ⟨h1, h2⟩]
      refine ih (met := met ++ [w / 2]) (by rw [List.drop_append_of_le_length hp, List.flatMap_append]; simpa using g) (by simp; lia)
theorem foldl_add_len (l : List Int) : ∀ met : List Int, met.length ≤ (l.foldl add met).length := by
  induction l with
  | nil => simp
  | cons w l ih =>
    intro met
    rw [List.foldl_cons]
    refine Nat.le_trans ?_ (ih _)
    unfold add
    split <;> simp

noncomputable def wsum (f : Int → List Int) (met keys : List Int) : Nat := ((keys.filter fun a => decide (a ∉ met)).map fun a => (f a).length).sum
theorem wsum_out {a : Int} {met : List Int} : ∀ {keys : List Int}, a ∉ keys → wsum f (met ++ [a]) keys = wsum f met keys
  | [], _ => rfl
  | x :: keys, h => by
    have h' : ¬ a = x ∧ a ∉ keys := by simpa [not_or] using h
    have ih := wsum_out (met := met) h'.2
    unfold wsum at ih ⊢
    have hx : ¬ x = a := fun e => h'.1 e.symm
    by_cases hm : x ∈ met <;> simp [List.filter_cons, hm, hx] at ih ⊢ <;> exact ih
theorem wsum_in {a : Int} {met : List Int} : ∀ {keys : List Int}, keys.Nodup → a ∈ keys → a ∉ met → wsum f (met ++ [a]) keys + (f a).length = wsum f met keys
  | x :: keys, hn, ha, hm => by
    have hn' := List.nodup_cons.mp hn
    by_cases e : a = x
    · subst e
      have := wsum_out (f := f) (met := met) hn'.1
      unfold wsum at this ⊢
      simp [List.filter_cons, hm] at this ⊢
      lia
    · have ih := wsum_in (met := met) hn'.2 (by simpa [e] using ha) hm
      unfold wsum at ih ⊢
      have hx : ¬ x = a := fun q => e q.symm
      by_cases hxm : x ∈ met <;> simp [List.filter_cons, hxm, hx] at ih ⊢ <;> lia
theorem go_exists {keys : List Int} (hk : keys.Nodup) (hf : ∀ a ∈ keys, ∀ w ∈ f a, w % 2 = 1 → w / 2 ∈ keys) : ∀ (n : Nat) (met q : List Int), q.length + wsum f met keys ≤ n → (∀ w ∈ q, w % 2 = 1 → w / 2 ∈ keys) → ∃ k r, k ≤ n ∧ Go f k met q r
  | n, met, [], h, _ => ⟨0, met, by lia, .nil⟩
  | 0, met, w :: q, h, _ => by simp at h
  | n + 1, met, w :: q, h, hq => by
    simp at h
    by_cases hw : w % 2 = 1 ∧ w / 2 ∉ met
    · have ha := hq w (.head _) hw.1
      have hs := wsum_in (f := f) hk ha hw.2
      obtain ⟨k, r, h1, h2⟩ := go_exists hk hf n (met ++ [w / 2]) (q ++ f (w / 2)) (by simp; lia) fun x hx => by
        rcases List.mem_append.mp hx with hx | hx
        · exact hq x (.tail _ hx)
        · exact hf _ ha x hx
      exact ⟨k + 1, r, by lia, .new hw.1 hw.2 h2⟩
    · obtain ⟨k, r, h1, h2⟩ := go_exists hk hf n met q (by lia) fun x hx => hq x (.tail _ hx)
      exact ⟨k + 1, r, by lia, .skip hw h2⟩
end

theorem law_reach_run (m : Nat) {f : Int → List Int} {ks : List Int} {ds : List D} {roots r : List Int} {n : Nat} (g : Go f n [] roots r) (hn : n < 99) (hobj : ∀ a ∈ r, look a ks ds = some (il (f a))) : Gt (m + 1) "_law_reach" [.dic ks ds, il roots] = some (.val (il r)) := by
  rw [gt_run (b := b_law_reach) (vs := vs_law_reach) rfl rfl]
  have hlen := g.len.2
  have key : ∃ o, wh (tst (Gt m) (.ex (.bool true))) (execs (Gt m) N0 100 l_law_reach_1) 100 [some (.val (.dic ks ds)), some (.val (il roots)), some (.own (dints [])), some (.val (il roots)), some (.val (.int 0)), none] = some o ∧ ∃ σ, o = .next σ ∧ rd σ 2 = some (.own (dints r)) := by
    refine wh_ok (fun c σ => ∃ (met Q : List Int) (k : Nat) (wv : Option R), Go f c met (Q.drop k) r ∧ k ≤ Q.length ∧ met.length ≤ k ∧ k + c ≤ 99 ∧ σ = [some (.val (.dic ks ds)), some (.val (il roots)), some (.own (dints met)), some (.val (il Q)), some (.val (.int k)), wv]) _ ?_ 100 n _ (by lia) ⟨[], roots, 0, none, by simpa using g, by simp, by simp, by lia, by simp⟩
    rintro c σ ⟨met, Q, k, wv, g, hk, hmk, hc, rfl⟩
    have hq := g.len.2
    have hQ : Q.length ≤ 4096 := by simp at hq; lia
    have hk4 : (k : Int) < 4096 := by lia
    refine ⟨true, by simp [tst, run_, rt_ret, rt_next, es_nil, es_cons, nx_next, nx_brk, nx_ret, ex_assign, setV_some, ex_assignO, setR_some, nxt_some, ex_take, tk_tup, tk2_own, ex_frz, fz_some, fv_some, ex_unpack, un_tup, puts_nil, puts_cons, ex_setidx, si_int, si2_some, ex_append, ap_some, ex_ite, br_some, ex_for1, f1_some, ex_for2, f2_some, ex_while, ex_ret, rv_some, ex_ret2, r2_some, ex_brk, ex_laid, ld_some, ld2_some, ld3_some, evI_range, rg_some, evI_seq, sq_some, seq_il, rng_int, evO_call, cO_some, evO_lst, evO_bin, evO_list, ow_some, own_il, own_lst, ev_non, ev_bool, ev_int, ev_str, ev_var, ev_bin, bo_some, ev_neg, ng_some, negD_int, ev_cmp, cb_some, bl_some, ev_ite, ei_some, ev_call, cl_some, rD_val, rD_own, rD_tup, ev_bi, bf_some, ev_idx, ix_none, ix_some, cp_vi, cpt_none, cpt_val, cpt_own, cpt_tup, cv_val, cv_own, cp_vv, cp_vb, cp_vc, cp_vx, cp_vn, cp_c, cp_x, cp_s, cp_b, cp_f, ev_slc, s3_some, ev_lst, mko_some, ev_tup, tpo_some, ev_dic0, ev_comp, cm_some, evs_nil, evs_cons, cn_some, et_cmp, co_some, et_not, nt_some, et_and, an_some, et_or, or_some, et_ex, tb_some, eb_var, eb_non, eb_bool, eb_int, eb_str, eb_bin, eb_neg, eb_cmp, eb_ite, eb_call, eb_bi, eb_idx, eb_slc, eb_lst, eb_tup, eb_dic0, eb_comp, rd_zero, rd_succ, put_zero, put_succ, asg_put, toV_val, toB_val, toB_own, ownOf_, toO_own, toD_val, toD_own, toD_tup, ctoD_val, ctoD_own, cds_nil, cds_cons, cs2_some, bin_add, bin_sub, bin_mul, bin_fdiv, bin_mod, bi_len, bi_list, idx_il, idx_tup, idx_dic, add_il, rep_il, mk_nil, mk_one, mk_int, mk_dints, lst_dints, lst_nil, slc_il, slc_il0, slc_il1, cmp_eq, cmp_ne, cmp_lt, cmp_le, cmp_gt, cmp_ge, cmp_in, cmp_notin, ok_int, ok_il, eqb_int, eqb_il, lid, sto0], by simp, fun _ => ?_⟩
    by_cases he : k = Q.length
    · subst he
      rw [List.drop_length] at g
      cases g
      exact ⟨.brk _, by simp [l_law_reach_1, run_, rt_ret, rt_next, es_nil, es_cons, nx_next, nx_brk, nx_ret, ex_assign, setV_some, ex_assignO, setR_some, nxt_some, ex_take, tk_tup, tk2_own, ex_frz, fz_some, fv_some, ex_unpack, un_tup, puts_nil, puts_cons, ex_setidx, si_int, si2_some, ex_append, ap_some, ex_ite, br_some, ex_for1, f1_some, ex_for2, f2_some, ex_while, ex_ret, rv_some, ex_ret2, r2_some, ex_brk, ex_laid, ld_some, ld2_some, ld3_some, evI_range, rg_some, evI_seq, sq_some, seq_il, rng_int, evO_call, cO_some, evO_lst, evO_bin, evO_list, ow_some, own_il, own_lst, ev_non, ev_bool, ev_int, ev_str, ev_var, ev_bin, bo_some, ev_neg, ng_some, negD_int, ev_cmp, cb_some, bl_some, ev_ite, ei_some, ev_call, cl_some, rD_val, rD_own, rD_tup, ev_bi, bf_some, ev_idx, ix_none, ix_some, cp_vi, cpt_none, cpt_val, cpt_own, cpt_tup, cv_val, cv_own, cp_vv, cp_vb, cp_vc, cp_vx, cp_vn, cp_c, cp_x, cp_s, cp_b, cp_f, ev_slc, s3_some, ev_lst, mko_some, ev_tup, tpo_some, ev_dic0, ev_comp, cm_some, evs_nil, evs_cons, cn_some, et_cmp, co_some, et_not, nt_some, et_and, an_some, et_or, or_some, et_ex, tb_some, eb_var, eb_non, eb_bool, eb_int, eb_str, eb_bin, eb_neg, eb_cmp, eb_ite, eb_call, eb_bi, eb_idx, eb_slc, eb_lst, eb_tup, eb_dic0, eb_comp, rd_zero, rd_succ, put_zero, put_succ, asg_put, toV_val, toB_val, toB_own, ownOf_, toO_own, toD_val, toD_own, toD_tup, ctoD_val, ctoD_own, cds_nil, cds_cons, cs2_some, bin_add, bin_sub, bin_mul, bin_fdiv, bin_mod, bi_len, bi_list, idx_il, idx_tup, idx_dic, add_il, rep_il, mk_nil, mk_one, mk_int, mk_dints, lst_dints, lst_nil, slc_il, slc_il0, slc_il1, cmp_eq, cmp_ne, cmp_lt, cmp_le, cmp_gt, cmp_ge, cmp_in, cmp_notin, ok_int, ok_il, eqb_int, eqb_il, lid, sto0, hQ]; rfl, _, rfl, rfl⟩
    · have he' : ¬ (k : Int) = Q.length := by lia
      have hkl : k < Q.length := by lia
      obtain ⟨w, hw⟩ : ∃ w, Q[k]? = some w := ⟨Q[k], by simp [hkl]⟩
      have hd : Q.drop k = w :: Q.drop (k + 1) := by
        rw [List.drop_eq_getElem_cons hkl]
        rw [List.getElem?_eq_getElem hkl] at hw
        rw [Option.some.inj hw]
      rw [hd] at g
      cases g with
      | @skip c _ _ _ _ h g =>
        refine ⟨.next [some (.val (.dic ks ds)), some (.val (il roots)), some (.own (dints met)), some (.val (il Q)), some (.val (.int ((k + 1 : Nat) : Int))), some (.val (.int w))], ?_, c, by lia, met, Q, k + 1, _, g, by lia, by lia, by lia, rfl⟩
        by_cases h1 : w % 2 = 1
        · have h2 : w / 2 ∈ met := Classical.byContradiction fun q => h ⟨h1, q⟩
          simp [l_law_reach_1, run_, rt_ret, rt_next, es_nil, es_cons, nx_next, nx_brk, nx_ret, ex_assign, setV_some, ex_assignO, setR_some, nxt_some, ex_take, tk_tup, tk2_own, ex_frz, fz_some, fv_some, ex_unpack, un_tup, puts_nil, puts_cons, ex_setidx, si_int, si2_some, ex_append, ap_some, ex_ite, br_some, ex_for1, f1_some, ex_for2, f2_some, ex_while, ex_ret, rv_some, ex_ret2, r2_some, ex_brk, ex_laid, ld_some, ld2_some, ld3_some, evI_range, rg_some, evI_seq, sq_some, seq_il, rng_int, evO_call, cO_some, evO_lst, evO_bin, evO_list, ow_some, own_il, own_lst, ev_non, ev_bool, ev_int, ev_str, ev_var, ev_bin, bo_some, ev_neg, ng_some, negD_int, ev_cmp, cb_some, bl_some, ev_ite, ei_some, ev_call, cl_some, rD_val, rD_own, rD_tup, ev_bi, bf_some, ev_idx, ix_none, ix_some, cp_vi, cpt_none, cpt_val, cpt_own, cpt_tup, cv_val, cv_own, cp_vv, cp_vb, cp_vc, cp_vx, cp_vn, cp_c, cp_x, cp_s, cp_b, cp_f, ev_slc, s3_some, ev_lst, mko_some, ev_tup, tpo_some, ev_dic0, ev_comp, cm_some, evs_nil, evs_cons, cn_some, et_cmp, co_some, et_not, nt_some, et_and, an_some, et_or, or_some, et_ex, tb_some, eb_var, eb_non, eb_bool, eb_int, eb_str, eb_bin, eb_neg, eb_cmp, eb_ite, eb_call, eb_bi, eb_idx, eb_slc, eb_lst, eb_tup, eb_dic0, eb_comp, rd_zero, rd_succ, put_zero, put_succ, asg_put, toV_val, toB_val, toB_own, ownOf_, toO_own, toD_val, toD_own, toD_tup, ctoD_val, ctoD_own, cds_nil, cds_cons, cs2_some, bin_add, bin_sub, bin_mul, bin_fdiv, bin_mod, bi_len, bi_list, idx_il, idx_tup, idx_dic, add_il, rep_il, mk_nil, mk_one, mk_int, mk_dints, lst_dints, lst_nil, slc_il, slc_il0, slc_il1, cmp_eq, cmp_ne, cmp_lt, cmp_le, cmp_gt, cmp_ge, cmp_in, cmp_notin, ok_int, ok_il, eqb_int, eqb_il, lid, sto0, hQ, he', hk4, hw, h1, h2]
        · simp [l_law_reach_1, run_, rt_ret, rt_next, es_nil, es_cons, nx_next, nx_brk, nx_ret, ex_assign, setV_some, ex_assignO, setR_some, nxt_some, ex_take, tk_tup, tk2_own, ex_frz, fz_some, fv_some, ex_unpack, un_tup, puts_nil, puts_cons, ex_setidx, si_int, si2_some, ex_append, ap_some, ex_ite, br_some, ex_for1, f1_some, ex_for2, f2_some, ex_while, ex_ret, rv_some, ex_ret2, r2_some, ex_brk, ex_laid, ld_some, ld2_some, ld3_some, evI_range, rg_some, evI_seq, sq_some, seq_il, rng_int, evO_call, cO_some, evO_lst, evO_bin, evO_list, ow_some, own_il, own_lst, ev_non, ev_bool, ev_int, ev_str, ev_var, ev_bin, bo_some, ev_neg, ng_some, negD_int, ev_cmp, cb_some, bl_some, ev_ite, ei_some, ev_call, cl_some, rD_val, rD_own, rD_tup, ev_bi, bf_some, ev_idx, ix_none, ix_some, cp_vi, cpt_none, cpt_val, cpt_own, cpt_tup, cv_val, cv_own, cp_vv, cp_vb, cp_vc, cp_vx, cp_vn, cp_c, cp_x, cp_s, cp_b, cp_f, ev_slc, s3_some, ev_lst, mko_some, ev_tup, tpo_some, ev_dic0, ev_comp, cm_some, evs_nil, evs_cons, cn_some, et_cmp, co_some, et_not, nt_some, et_and, an_some, et_or, or_some, et_ex, tb_some, eb_var, eb_non, eb_bool, eb_int, eb_str, eb_bin, eb_neg, eb_cmp, eb_ite, eb_call, eb_bi, eb_idx, eb_slc, eb_lst, eb_tup, eb_dic0, eb_comp, rd_zero, rd_succ, put_zero, put_succ, asg_put, toV_val, toB_val, toB_own, ownOf_, toO_own, toD_val, toD_own, toD_tup, ctoD_val, ctoD_own, cds_nil, cds_cons, cs2_some, bin_add, bin_sub, bin_mul, bin_fdiv, bin_mod, bi_len, bi_list, idx_il, idx_tup, idx_dic, add_il, rep_il, mk_nil, mk_one, mk_int, mk_dints, lst_dints, lst_nil, slc_il, slc_il0, slc_il1, cmp_eq, cmp_ne, cmp_lt, cmp_le, cmp_gt, cmp_ge, cmp_in, cmp_notin, ok_int, ok_il, eqb_int, eqb_il, lid, sto0, hQ, he', hk4, hw, h1]
      | @new c _ _ _ _ h1 h2 g =>
        have ho := hobj (w / 2) (g.mem _ (by simp))
        refine ⟨.next [some (.val (.dic ks ds)), some (.val (il roots)), some (.own (dints (met ++ [w / 2]))), some (.val (il (Q ++ f (w / 2)))), some (.val (.int ((k + 1 : Nat) : Int))), some (.val (.int w))], ?_, c, by lia, met ++ [w / 2], Q ++ f (w / 2), k + 1, _, ?_, by simp; lia, by simp; lia, by lia, rfl⟩
        · have hq2 := g.len.2
          have hl : Q.length + (f (w / 2)).length ≤ 4096 := by simp at hq2; lia
          have hm4 : met.length < 4096 := by lia
          simp [l_law_reach_1, run_, rt_ret, rt_next, es_nil, es_cons, nx_next, nx_brk, nx_ret, ex_assign, setV_some, ex_assignO, setR_some, nxt_some, ex_take, tk_tup, tk2_own, ex_frz, fz_some, fv_some, ex_unpack, un_tup, puts_nil, puts_cons, ex_setidx, si_int, si2_some, ex_append, ap_some, ex_ite, br_some, ex_for1, f1_some, ex_for2, f2_some, ex_while, ex_ret, rv_some, ex_ret2, r2_some, ex_brk, ex_laid, ld_some, ld2_some, ld3_some, evI_range, rg_some, evI_seq, sq_some, seq_il, rng_int, evO_call, cO_some, evO_lst, evO_bin, evO_list, ow_some, own_il, own_lst, ev_non, ev_bool, ev_int, ev_str, ev_var, ev_bin, bo_some, ev_neg, ng_some, negD_int, ev_cmp, cb_some, bl_some, ev_ite, ei_some, ev_call, cl_some, rD_val, rD_own, rD_tup, ev_bi, bf_some, ev_idx, ix_none, ix_some, cp_vi, cpt_none, cpt_val, cpt_own, cpt_tup, cv_val, cv_own, cp_vv, cp_vb, cp_vc, cp_vx, cp_vn, cp_c, cp_x, cp_s, cp_b, cp_f, ev_slc, s3_some, ev_lst, mko_some, ev_tup, tpo_some, ev_dic0, ev_comp, cm_some, evs_nil, evs_cons, cn_some, et_cmp, co_some, et_not, nt_some, et_and, an_some, et_or, or_some, et_ex, tb_some, eb_var, eb_non, eb_bool, eb_int, eb_str, eb_bin, eb_neg, eb_cmp, eb_ite, eb_call, eb_bi, eb_idx, eb_slc, eb_lst, eb_tup, eb_dic0, eb_comp, rd_zero, rd_succ, put_zero, put_succ, asg_put, toV_val, toB_val, toB_own, ownOf_, toO_own, toD_val, toD_own, toD_tup, ctoD_val, ctoD_own, cds_nil, cds_cons, cs2_some, bin_add, bin_sub, bin_mul, bin_fdiv, bin_mod, bi_len, bi_list, idx_il, idx_tup, idx_dic, add_il, rep_il, mk_nil, mk_one, mk_int, mk_dints, lst_dints, lst_nil, slc_il, slc_il0, slc_il1, cmp_eq, cmp_ne, cmp_lt, cmp_le, cmp_gt, cmp_ge, cmp_in, cmp_notin, ok_int, ok_il, eqb_int, eqb_il, lid, sto0, hQ, he', hk4, hw, h1, h2, ho, hl, dints_len, dints_app, hm4]
        · rw [List.drop_append_of_le_length (by lia)]; exact g
  obtain ⟨o, ho, σ, rfl, hr⟩ := key
  have hl : roots.length ≤ 4096 := by lia
  simp [b_law_reach, vs_law_reach, run_, rt_ret, rt_next, es_nil, es_cons, nx_next, nx_brk, nx_ret, ex_assign, setV_some, ex_assignO, setR_some, nxt_some, ex_take, tk_tup, tk2_own, ex_frz, fz_some, fv_some, ex_unpack, un_tup, puts_nil, puts_cons, ex_setidx, si_int, si2_some, ex_append, ap_some, ex_ite, br_some, ex_for1, f1_some, ex_for2, f2_some, ex_while, ex_ret, rv_some, ex_ret2, r2_some, ex_brk, ex_laid, ld_some, ld2_some, ld3_some, evI_range, rg_some, evI_seq, sq_some, seq_il, rng_int, evO_call, cO_some, evO_lst, evO_bin, evO_list, ow_some, own_il, own_lst, ev_non, ev_bool, ev_int, ev_str, ev_var, ev_bin, bo_some, ev_neg, ng_some, negD_int, ev_cmp, cb_some, bl_some, ev_ite, ei_some, ev_call, cl_some, rD_val, rD_own, rD_tup, ev_bi, bf_some, ev_idx, ix_none, ix_some, cp_vi, cpt_none, cpt_val, cpt_own, cpt_tup, cv_val, cv_own, cp_vv, cp_vb, cp_vc, cp_vx, cp_vn, cp_c, cp_x, cp_s, cp_b, cp_f, ev_slc, s3_some, ev_lst, mko_some, ev_tup, tpo_some, ev_dic0, ev_comp, cm_some, evs_nil, evs_cons, cn_some, et_cmp, co_some, et_not, nt_some, et_and, an_some, et_or, or_some, et_ex, tb_some, eb_var, eb_non, eb_bool, eb_int, eb_str, eb_bin, eb_neg, eb_cmp, eb_ite, eb_call, eb_bi, eb_idx, eb_slc, eb_lst, eb_tup, eb_dic0, eb_comp, rd_zero, rd_succ, put_zero, put_succ, asg_put, toV_val, toB_val, toB_own, ownOf_, toO_own, toD_val, toD_own, toD_tup, ctoD_val, ctoD_own, cds_nil, cds_cons, cs2_some, bin_add, bin_sub, bin_mul, bin_fdiv, bin_mod, bi_len, bi_list, idx_il, idx_tup, idx_dic, add_il, rep_il, mk_nil, mk_one, mk_int, mk_dints, lst_dints, lst_nil, slc_il, slc_il0, slc_il1, cmp_eq, cmp_ne, cmp_lt, cmp_le, cmp_gt, cmp_ge, cmp_in, cmp_notin, ok_int, ok_il, eqb_int, eqb_il, lid, sto0, ho, hl, hr]

theorem reach_inner (m : Nat) {mem rts : D} {pv : Option R} (l : Ss) (hl : l = l_reachable_1) (ws met : List Int) (wv : Option R) (hm : met.length + ws.length < 4096) :
    ∃ wv', fo (asg 3) (execs (Gt (m + 1)) N0 100 l) (dints ws) [some (.val mem), some (.val rts), some (.own (dints met)), wv, pv] = some (.next [some (.val mem), some (.val rts), some (.own (dints (ws.foldl add met))), wv', pv]) := by
  subst hl
  induction ws generalizing met wv with
  | nil => exact ⟨wv, rfl⟩
  | cons w ws ih =>
    simp at hm
    have hm4 : met.length < 4096 := by lia
    have step : execs (Gt (m + 1)) N0 100 l_reachable_1 [some (.val mem), some (.val rts), some (.own (dints met)), some (.val (.int w)), pv] = some (.next [some (.val mem), some (.val rts), some (.own (dints (add met w))), some (.val (.int w)), pv]) := by
      by_cases h1 : w % 2 = 1
      · by_cases h2 : w / 2 ∈ met
        · simp [l_reachable_1, run_, rt_ret, rt_next, es_nil, es_cons, nx_next, nx_brk, nx_ret, ex_assign, setV_some, ex_assignO, setR_some, nxt_some, ex_take, tk_tup, tk2_own, ex_frz, fz_some, fv_some, ex_unpack, un_tup, puts_nil, puts_cons, ex_setidx, si_int, si2_some, ex_append, ap_some, ex_ite, br_some, ex_for1, f1_some, ex_for2, f2_some, ex_while, ex_ret, rv_some, ex_ret2, r2_some, ex_brk, ex_laid, ld_some, ld2_some, ld3_some, evI_range, rg_some, evI_seq, sq_some, seq_il, rng_int, evO_call, cO_some, evO_lst, evO_bin, evO_list, ow_some, own_il, own_lst, ev_non, ev_bool, ev_int, ev_str, ev_var, ev_bin, bo_some, ev_neg, ng_some, negD_int, ev_cmp, cb_some, bl_some, ev_ite, ei_some, ev_call, cl_some, rD_val, rD_own, rD_tup, ev_bi, bf_some, ev_idx, ix_none, ix_some, cp_vi, cpt_none, cpt_val, cpt_own, cpt_tup, cv_val, cv_own, cp_vv, cp_vb, cp_vc, cp_vx, cp_vn, cp_c, cp_x, cp_s, cp_b, cp_f, ev_slc, s3_some, ev_lst, mko_some, ev_tup, tpo_some, ev_dic0, ev_comp, cm_some, evs_nil, evs_cons, cn_some, et_cmp, co_some, et_not, nt_some, et_and, an_some, et_or, or_some, et_ex, tb_some, eb_var, eb_non, eb_bool, eb_int, eb_str, eb_bin, eb_neg, eb_cmp, eb_ite, eb_call, eb_bi, eb_idx, eb_slc, eb_lst, eb_tup, eb_dic0, eb_comp, rd_zero, rd_succ, put_zero, put_succ, asg_put, toV_val, toB_val, toB_own, ownOf_, toO_own, toD_val, toD_own, toD_tup, ctoD_val, ctoD_own, cds_nil, cds_cons, cs2_some, bin_add, bin_sub, bin_mul, bin_fdiv, bin_mod, bi_len, bi_list, idx_il, idx_tup, idx_dic, add_il, rep_il, mk_nil, mk_one, mk_int, mk_dints, lst_dints, lst_nil, slc_il, slc_il0, slc_il1, cmp_eq, cmp_ne, cmp_lt, cmp_le, cmp_gt, cmp_ge, cmp_in, cmp_notin, ok_int, ok_il, eqb_int, eqb_il, lid, sto0, is_pointer_run, address_of_run, h1, h2, add]
        · simp [l_reachable_1, run_, rt_ret, rt_next, es_nil, es_cons, nx_next, nx_brk, nx_ret, ex_assign, setV_some, ex_assignO, setR_some, nxt_some, ex_take, tk_tup, tk2_own, ex_frz, fz_some, fv_some, ex_unpack, un_tup, puts_nil, puts_cons, ex_setidx, si_int, si2_some, ex_append, ap_some, ex_ite, br_some, ex_for1, f1_some, ex_for2, f2_some, ex_while, ex_ret, rv_some, ex_ret2, r2_some, ex_brk, ex_laid, ld_some, ld2_some, ld3_some, evI_range, rg_some, evI_seq, sq_some, seq_il, rng_int, evO_call, cO_some, evO_lst, evO_bin, evO_list, ow_some, own_il, own_lst, ev_non, ev_bool, ev_int, ev_str, ev_var, ev_bin, bo_some, ev_neg, ng_some, negD_int, ev_cmp, cb_some, bl_some, ev_ite, ei_some, ev_call, cl_some, rD_val, rD_own, rD_tup, ev_bi, bf_some, ev_idx, ix_none, ix_some, cp_vi, cpt_none, cpt_val, cpt_own, cpt_tup, cv_val, cv_own, cp_vv, cp_vb, cp_vc, cp_vx, cp_vn, cp_c, cp_x, cp_s, cp_b, cp_f, ev_slc, s3_some, ev_lst, mko_some, ev_tup, tpo_some, ev_dic0, ev_comp, cm_some, evs_nil, evs_cons, cn_some, et_cmp, co_some, et_not, nt_some, et_and, an_some, et_or, or_some, et_ex, tb_some, eb_var, eb_non, eb_bool, eb_int, eb_str, eb_bin, eb_neg, eb_cmp, eb_ite, eb_call, eb_bi, eb_idx, eb_slc, eb_lst, eb_tup, eb_dic0, eb_comp, rd_zero, rd_succ, put_zero, put_succ, asg_put, toV_val, toB_val, toB_own, ownOf_, toO_own, toD_val, toD_own, toD_tup, ctoD_val, ctoD_own, cds_nil, cds_cons, cs2_some, bin_add, bin_sub, bin_mul, bin_fdiv, bin_mod, bi_len, bi_list, idx_il, idx_tup, idx_dic, add_il, rep_il, mk_nil, mk_one, mk_int, mk_dints, lst_dints, lst_nil, slc_il, slc_il0, slc_il1, cmp_eq, cmp_ne, cmp_lt, cmp_le, cmp_gt, cmp_ge, cmp_in, cmp_notin, ok_int, ok_il, eqb_int, eqb_il, lid, sto0, is_pointer_run, address_of_run, h1, h2, add, dints_len, dints_app, hm4]
      · simp [l_reachable_1, run_, rt_ret, rt_next, es_nil, es_cons, nx_next, nx_brk, nx_ret, ex_assign, setV_some, ex_assignO, setR_some, nxt_some, ex_take, tk_tup, tk2_own, ex_frz, fz_some, fv_some, ex_unpack, un_tup, puts_nil, puts_cons, ex_setidx, si_int, si2_some, ex_append, ap_some, ex_ite, br_some, ex_for1, f1_some, ex_for2, f2_some, ex_while, ex_ret, rv_some, ex_ret2, r2_some, ex_brk, ex_laid, ld_some, ld2_some, ld3_some, evI_range, rg_some, evI_seq, sq_some, seq_il, rng_int, evO_call, cO_some, evO_lst, evO_bin, evO_list, ow_some, own_il, own_lst, ev_non, ev_bool, ev_int, ev_str, ev_var, ev_bin, bo_some, ev_neg, ng_some, negD_int, ev_cmp, cb_some, bl_some, ev_ite, ei_some, ev_call, cl_some, rD_val, rD_own, rD_tup, ev_bi, bf_some, ev_idx, ix_none, ix_some, cp_vi, cpt_none, cpt_val, cpt_own, cpt_tup, cv_val, cv_own, cp_vv, cp_vb, cp_vc, cp_vx, cp_vn, cp_c, cp_x, cp_s, cp_b, cp_f, ev_slc, s3_some, ev_lst, mko_some, ev_tup, tpo_some, ev_dic0, ev_comp, cm_some, evs_nil, evs_cons, cn_some, et_cmp, co_some, et_not, nt_some, et_and, an_some, et_or, or_some, et_ex, tb_some, eb_var, eb_non, eb_bool, eb_int, eb_str, eb_bin, eb_neg, eb_cmp, eb_ite, eb_call, eb_bi, eb_idx, eb_slc, eb_lst, eb_tup, eb_dic0, eb_comp, rd_zero, rd_succ, put_zero, put_succ, asg_put, toV_val, toB_val, toB_own, ownOf_, toO_own, toD_val, toD_own, toD_tup, ctoD_val, ctoD_own, cds_nil, cds_cons, cs2_some, bin_add, bin_sub, bin_mul, bin_fdiv, bin_mod, bi_len, bi_list, idx_il, idx_tup, idx_dic, add_il, rep_il, mk_nil, mk_one, mk_int, mk_dints, lst_dints, lst_nil, slc_il, slc_il0, slc_il1, cmp_eq, cmp_ne, cmp_lt, cmp_le, cmp_gt, cmp_ge, cmp_in, cmp_notin, ok_int, ok_il, eqb_int, eqb_il, lid, sto0, is_pointer_run, h1, add]
    obtain ⟨wv', h⟩ := ih (add met w) (some (.val (.int w))) (by
      have : (add met w).length ≤ met.length + 1 := by unfold add; split <;> simp
      lia)
    exact ⟨wv', (fo_step rfl step).trans h⟩

theorem reachable_run (m : Nat) {f : Int → List Int} {mem : D} {roots r : List Int} {n : Nat} (g : Go f n [] roots r) (hn : n < 99) (hr : r.length < 99) (hobj : ∀ a ∈ r, Gt (m + 1) "fields_of" [mem, .int a] = some (.val (il (f a))) ∧ (f a).length < 1000) : Gt (m + 2) "reachable" [mem, il roots] = some (.val (il r)) := by
  rw [gt_run (b := b_reachable) (vs := vs_reachable) rfl rfl]
  have hlen := g.len.2
  obtain ⟨wv₁, h₁⟩ := reach_inner m (mem := mem) (rts := il roots) (pv := none) l_reachable_1 rfl roots [] none (by simp; lia)
  obtain ⟨k₁, g₁⟩ := Go.fold (f := f) (met := []) (r := r) (k := n) (p := 0) roots (by simpa using g) (by simp)
  have key : ∃ o, wh (tst (Gt (m + 1)) (.cmp .lt (.var 4) (.bi .len (.var 2)))) (execs (Gt (m + 1)) N0 100 l_reachable_2) 100 [some (.val mem), some (.val (il roots)), some (.own (dints (roots.foldl add []))), wv₁, some (.val (.int 0))] = some o ∧ ∃ σ, o = .next σ ∧ rd σ 2 = some (.own (dints r)) := by
    refine wh_ok (fun c σ => ∃ (met : List Int) (p k : Nat) (wv : Option R), c = r.length - p ∧ p ≤ met.length ∧ Go f k met ((met.drop p).flatMap f) r ∧ σ = [some (.val mem), some (.val (il roots)), some (.own (dints met)), wv, some (.val (.int p))]) _ ?_ 100 r.length _ (by lia) ⟨_, 0, k₁, wv₁, by simp, by simp, by simpa using g₁, by simp⟩
    rintro c σ ⟨met, p, k, wv, hc, hp, g, rfl⟩
    have hml := g.len.1
    have hm4 : met.length ≤ 4096 := by lia
    refine ⟨decide (p < met.length), by simp [tst, run_, rt_ret, rt_next, es_nil, es_cons, nx_next, nx_brk, nx_ret, ex_assign, setV_some, ex_assignO, setR_some, nxt_some, ex_take, tk_tup, tk2_own, ex_frz, fz_some, fv_some, ex_unpack, un_tup, puts_nil, puts_cons, ex_setidx, si_int, si2_some, ex_append, ap_some, ex_ite, br_some, ex_for1, f1_some, ex_for2, f2_some, ex_while, ex_ret, rv_some, ex_ret2, r2_some, ex_brk, ex_laid, ld_some, ld2_some, ld3_some, evI_range, rg_some, evI_seq, sq_some, seq_il, rng_int, evO_call, cO_some, evO_lst, evO_bin, evO_list, ow_some, own_il, own_lst, ev_non, ev_bool, ev_int, ev_str, ev_var, ev_bin, bo_some, ev_neg, ng_some, negD_int, ev_cmp, cb_some, bl_some, ev_ite, ei_some, ev_call, cl_some, rD_val, rD_own, rD_tup, ev_bi, bf_some, ev_idx, ix_none, ix_some, cp_vi, cpt_none, cpt_val, cpt_own, cpt_tup, cv_val, cv_own, cp_vv, cp_vb, cp_vc, cp_vx, cp_vn, cp_c, cp_x, cp_s, cp_b, cp_f, ev_slc, s3_some, ev_lst, mko_some, ev_tup, tpo_some, ev_dic0, ev_comp, cm_some, evs_nil, evs_cons, cn_some, et_cmp, co_some, et_not, nt_some, et_and, an_some, et_or, or_some, et_ex, tb_some, eb_var, eb_non, eb_bool, eb_int, eb_str, eb_bin, eb_neg, eb_cmp, eb_ite, eb_call, eb_bi, eb_idx, eb_slc, eb_lst, eb_tup, eb_dic0, eb_comp, rd_zero, rd_succ, put_zero, put_succ, asg_put, toV_val, toB_val, toB_own, ownOf_, toO_own, toD_val, toD_own, toD_tup, ctoD_val, ctoD_own, cds_nil, cds_cons, cs2_some, bin_add, bin_sub, bin_mul, bin_fdiv, bin_mod, bi_len, bi_list, idx_il, idx_tup, idx_dic, add_il, rep_il, mk_nil, mk_one, mk_int, mk_dints, lst_dints, lst_nil, slc_il, slc_il0, slc_il1, cmp_eq, cmp_ne, cmp_lt, cmp_le, cmp_gt, cmp_ge, cmp_in, cmp_notin, ok_int, ok_il, eqb_int, eqb_il, lid, sto0, dints_len, hm4], fun h => ?_, fun h => ?_⟩
    · have : p = met.length := by simp at h; lia
      subst this
      rw [List.drop_length] at g
      cases g
      exact ⟨_, rfl, rfl⟩
    · have hpl : p < met.length := by simpa using h
      obtain ⟨a, ha⟩ : ∃ a, met[p]? = some a := ⟨met[p], by simp [hpl]⟩
      have hd : met.drop p = a :: met.drop (p + 1) := by
        rw [List.drop_eq_getElem_cons hpl]
        rw [List.getElem?_eq_getElem hpl] at ha
        rw [Option.some.inj ha]
      rw [hd, List.flatMap_cons] at g
      obtain ⟨hf, hfl⟩ := hobj a (g.mem a (List.mem_of_getElem? ha))
      obtain ⟨k', g'⟩ := Go.fold (p := p + 1) (f a) g (by lia)
      have hp4 : (p : Int) < 4096 := by lia
      have hfl' : (f a).length ≤ 4096 := by lia
      obtain ⟨wv', h'⟩ := reach_inner m (mem := mem) (rts := il roots) (pv := some (.val (.int p))) l_reachable_3 rfl (f a) met wv (by lia)
      refine ⟨.next [some (.val mem), some (.val (il roots)), some (.own (dints ((f a).foldl add met))), wv', some (.val (.int ((p + 1 : Nat) : Int)))], ?_, r.length - (p + 1), by lia, _, p + 1, k', wv', rfl, ?_, g', rfl⟩
      · simp [l_reachable_2, run_, rt_ret, rt_next, es_nil, es_cons, nx_next, nx_brk, nx_ret, ex_assign, setV_some, ex_assignO, setR_some, nxt_some, ex_take, tk_tup, tk2_own, ex_frz, fz_some, fv_some, ex_unpack, un_tup, puts_nil, puts_cons, ex_setidx, si_int, si2_some, ex_append, ap_some, ex_ite, br_some, ex_for1, f1_some, ex_for2, f2_some, ex_while, ex_ret, rv_some, ex_ret2, r2_some, ex_brk, ex_laid, ld_some, ld2_some, ld3_some, evI_range, rg_some, evI_seq, sq_some, seq_il, rng_int, evO_call, cO_some, evO_lst, evO_bin, evO_list, ow_some, own_il, own_lst, ev_non, ev_bool, ev_int, ev_str, ev_var, ev_bin, bo_some, ev_neg, ng_some, negD_int, ev_cmp, cb_some, bl_some, ev_ite, ei_some, ev_call, cl_some, rD_val, rD_own, rD_tup, ev_bi, bf_some, ev_idx, ix_none, ix_some, cp_vi, cpt_none, cpt_val, cpt_own, cpt_tup, cv_val, cv_own, cp_vv, cp_vb, cp_vc, cp_vx, cp_vn, cp_c, cp_x, cp_s, cp_b, cp_f, ev_slc, s3_some, ev_lst, mko_some, ev_tup, tpo_some, ev_dic0, ev_comp, cm_some, evs_nil, evs_cons, cn_some, et_cmp, co_some, et_not, nt_some, et_and, an_some, et_or, or_some, et_ex, tb_some, eb_var, eb_non, eb_bool, eb_int, eb_str, eb_bin, eb_neg, eb_cmp, eb_ite, eb_call, eb_bi, eb_idx, eb_slc, eb_lst, eb_tup, eb_dic0, eb_comp, rd_zero, rd_succ, put_zero, put_succ, asg_put, toV_val, toB_val, toB_own, ownOf_, toO_own, toD_val, toD_own, toD_tup, ctoD_val, ctoD_own, cds_nil, cds_cons, cs2_some, bin_add, bin_sub, bin_mul, bin_fdiv, bin_mod, bi_len, bi_list, idx_il, idx_tup, idx_dic, add_il, rep_il, mk_nil, mk_one, mk_int, mk_dints, lst_dints, lst_nil, slc_il, slc_il0, slc_il1, cmp_eq, cmp_ne, cmp_lt, cmp_le, cmp_gt, cmp_ge, cmp_in, cmp_notin, ok_int, ok_il, eqb_int, eqb_il, lid, sto0, ha, hp4, hf, h', hfl']
      · have := foldl_add_len (f a) met; lia
  obtain ⟨o, ho, σ, rfl, hr'⟩ := key
  have hl : roots.length ≤ 4096 := by lia
  simp [b_reachable, vs_reachable, run_, rt_ret, rt_next, es_nil, es_cons, nx_next, nx_brk, nx_ret, ex_assign, setV_some, ex_assignO, setR_some, nxt_some, ex_take, tk_tup, tk2_own, ex_frz, fz_some, fv_some, ex_unpack, un_tup, puts_nil, puts_cons, ex_setidx, si_int, si2_some, ex_append, ap_some, ex_ite, br_some, ex_for1, f1_some, ex_for2, f2_some, ex_while, ex_ret, rv_some, ex_ret2, r2_some, ex_brk, ex_laid, ld_some, ld2_some, ld3_some, evI_range, rg_some, evI_seq, sq_some, seq_il, rng_int, evO_call, cO_some, evO_lst, evO_bin, evO_list, ow_some, own_il, own_lst, ev_non, ev_bool, ev_int, ev_str, ev_var, ev_bin, bo_some, ev_neg, ng_some, negD_int, ev_cmp, cb_some, bl_some, ev_ite, ei_some, ev_call, cl_some, rD_val, rD_own, rD_tup, ev_bi, bf_some, ev_idx, ix_none, ix_some, cp_vi, cpt_none, cpt_val, cpt_own, cpt_tup, cv_val, cv_own, cp_vv, cp_vb, cp_vc, cp_vx, cp_vn, cp_c, cp_x, cp_s, cp_b, cp_f, ev_slc, s3_some, ev_lst, mko_some, ev_tup, tpo_some, ev_dic0, ev_comp, cm_some, evs_nil, evs_cons, cn_some, et_cmp, co_some, et_not, nt_some, et_and, an_some, et_or, or_some, et_ex, tb_some, eb_var, eb_non, eb_bool, eb_int, eb_str, eb_bin, eb_neg, eb_cmp, eb_ite, eb_call, eb_bi, eb_idx, eb_slc, eb_lst, eb_tup, eb_dic0, eb_comp, rd_zero, rd_succ, put_zero, put_succ, asg_put, toV_val, toB_val, toB_own, ownOf_, toO_own, toD_val, toD_own, toD_tup, ctoD_val, ctoD_own, cds_nil, cds_cons, cs2_some, bin_add, bin_sub, bin_mul, bin_fdiv, bin_mod, bi_len, bi_list, idx_il, idx_tup, idx_dic, add_il, rep_il, mk_nil, mk_one, mk_int, mk_dints, lst_dints, lst_nil, slc_il, slc_il0, slc_il1, cmp_eq, cmp_ne, cmp_lt, cmp_le, cmp_gt, cmp_ge, cmp_in, cmp_notin, ok_int, ok_il, eqb_int, eqb_il, lid, sto0, h₁, ho, hl, hr']
end Mine

set_option maxRecDepth 10000
set_option linter.unusedSimpArgs false
set_option linter.unusedVariables false
namespace Mine
open PySem

noncomputable def ObjAt (mem : List Int) (a : Int) (ws : List Int) : Prop := ∃ pre post, mem = pre ++ (ws.length : Int) :: (ws ++ post) ∧ a = pre.length
theorem ObjAt.fields {mem ws : List Int} {a : Int} (n : Nat) (h : ObjAt mem a ws) (hm : mem.length ≤ 4096) : Gt (n + 1) "fields_of" [il mem, .int a] = some (.val (il ws)) := by
  obtain ⟨pre, post, rfl, rfl⟩ := h
  exact fields_of_run n pre ws post hm

theorem get_mid (A B : List Int) (x : Int) : (A ++ x :: B)[A.length]? = some x := by simp
theorem set_mid (A B : List Int) (x y : Int) : (A ++ x :: B).set A.length y = A ++ y :: B := by simp

theorem fwd_body (n : Nat) {mem new : List Int} {fwl : R} {wv : Option R} {top a j x : Int} (h0 : 0 ≤ a + j) (h4 : a + j < 4096) (hget : mem[(a + j).toNat]? = some x) (h1 : 0 ≤ top + j) (hlt : top + j < new.length) (hl : new.length ≤ 4096) :
    execs (Gt n) N0 100 l_forwarded_1 [some (.val (il mem)), some (.own (dints new)), some fwl, some (.val (.int top)), wv, some (.val (.int a)), some (.val (.int j))]
      = some (.next [some (.val (il mem)), some (.own (dints (new.set (top + j).toNat x))), some fwl, some (.val (.int top)), wv, some (.val (.int a)), some (.val (.int j))]) := by
  simp [l_forwarded_1, run_, rt_ret, rt_next, es_nil, es_cons, nx_next, nx_brk, nx_ret, ex_assign, setV_some, ex_assignO, setR_some, nxt_some, ex_take, tk_tup, tk2_own, ex_frz, fz_some, fv_some, ex_unpack, un_tup, puts_nil, puts_cons, ex_setidx, si_int, si2_some, ex_append, ap_some, ex_ite, br_some, ex_for1, f1_some, ex_for2, f2_some, ex_while, ex_ret, rv_some, ex_ret2, r2_some, ex_brk, ex_laid, ld_some, ld2_some, ld3_some, evI_range, rg_some, evI_seq, sq_some, seq_il, rng_int, evO_call, cO_some, evO_lst, evO_bin, evO_list, ow_some, own_il, own_lst, ev_non, ev_bool, ev_int, ev_str, ev_var, ev_bin, bo_some, ev_neg, ng_some, negD_int, ev_cmp, cb_some, bl_some, ev_ite, ei_some, ev_call, cl_some, rD_val, rD_own, rD_tup, ev_bi, bf_some, ev_idx, ix_none, ix_some, cp_vi, cpt_none, cpt_val, cpt_own, cpt_tup, cv_val, cv_own, cp_vv, cp_vb, cp_vc, cp_vx, cp_vn, cp_c, cp_x, cp_s, cp_b, cp_f, ev_slc, s3_some, ev_lst, mko_some, ev_tup, tpo_some, ev_dic0, ev_comp, cm_some, evs_nil, evs_cons, cn_some, et_cmp, co_some, et_not, nt_some, et_and, an_some, et_or, or_some, et_ex, tb_some, eb_var, eb_non, eb_bool, eb_int, eb_str, eb_bin, eb_neg, eb_cmp, eb_ite, eb_call, eb_bi, eb_idx, eb_slc, eb_lst, eb_tup, eb_dic0, eb_comp, rd_zero, rd_succ, put_zero, put_succ, asg_put, toV_val, toB_val, toB_own, ownOf_, toO_own, toD_val, toD_own, toD_tup, ctoD_val, ctoD_own, cds_nil, cds_cons, cs2_some, bin_add, bin_sub, bin_mul, bin_fdiv, bin_mod, bi_len, bi_list, idx_il, idx_tup, idx_dic, add_il, rep_il, mk_nil, mk_one, mk_int, mk_dints, lst_dints, lst_nil, slc_il, slc_il0, slc_il1, cmp_eq, cmp_ne, cmp_lt, cmp_le, cmp_gt, cmp_ge, cmp_in, cmp_notin, ok_int, ok_il, eqb_int, eqb_il, lid, sto0, h0, h4, hget, dints_len, dints_set, h1, hlt, hl]

/-- a block is written over the head of a free part -/
theorem fwd_loop (n : Nat) {pre blk post N Z : List Int} {fwl : R} {wv : Option R} (hm : (pre ++ (blk ++ post)).length ≤ 4096) (hz : blk.length ≤ Z.length) (hN : (N ++ Z).length ≤ 4096) :
    ∃ jv, fo (asg 6) (execs (Gt n) N0 100 l_forwarded_1) (rngI 0 blk.length) [some (.val (il (pre ++ (blk ++ post)))), some (.own (dints (N ++ Z))), some fwl, some (.val (.int N.length)), wv, some (.val (.int pre.length)), none]
      = some (.next [some (.val (il (pre ++ (blk ++ post)))), some (.own (dints (N ++ (blk ++ Z.drop blk.length)))), some fwl, some (.val (.int N.length)), wv, some (.val (.int pre.length)), jv]) := by
  have key := fo_list (a := asg 6) (b := execs (Gt n) N0 100 l_forwarded_1) (fun rem σ => ∃ (j : Nat) (jv : Option R), j ≤ blk.length ∧ rem = rngI j (blk.length - j) ∧ σ = [some (.val (il (pre ++ (blk ++ post)))), some (.own (dints (N ++ (blk.take j ++ Z.drop j)))), some fwl, some (.val (.int N.length)), wv, some (.val (.int pre.length)), jv])
    (fun o => ∃ jv, o = .next [some (.val (il (pre ++ (blk ++ post)))), some (.own (dints (N ++ (blk ++ Z.drop blk.length)))), some fwl, some (.val (.int N.length)), wv, some (.val (.int pre.length)), jv]) ?_ ?_ (rngI 0 blk.length) _ ⟨0, none, by simp, by simp, rfl⟩
  · obtain ⟨o, h1, jv, rfl⟩ := key
    exact ⟨jv, by simpa using h1⟩
  · rintro σ ⟨j, jv, hj, hr, rfl⟩
    have : j = blk.length := by
      have := congrArg List.length hr
      simp [rngI] at this
      lia
    subst this
    exact ⟨jv, by simp⟩
  · rintro x rr σ ⟨j, jv, hj, hr, rfl⟩
    have hjl : j < blk.length := by
      have := congrArg List.length hr
      simp [rngI] at this
      lia
    obtain ⟨k, hk⟩ : ∃ k, blk.length - j = k + 1 := ⟨blk.length - j - 1, by lia⟩
    rw [hk, rngI_succ] at hr
    cases hr
    have hzj : j < Z.length := by lia
    obtain ⟨y, hy⟩ : ∃ y, blk[j]? = some y := ⟨blk[j], by simp [hjl]⟩
    have e1 : blk.take (j + 1) = blk.take j ++ [y] := by rw [List.take_add_one, hy]; rfl
    have e2 : Z.drop j = Z[j] :: Z.drop (j + 1) := List.drop_eq_getElem_cons hzj
    simp only [List.length_append] at hm hN
    have hg : (pre ++ (blk ++ post))[(((pre.length : Int)) + (j : Int)).toNat]? = some y := by
      have : ((pre.length : Int) + (j : Int)).toNat = pre.length + j := by lia
      rw [this, List.getElem?_append_right (by lia)]
      simp [List.getElem?_append_left hjl, hy]
    refine ⟨_, .next [some (.val (il (pre ++ (blk ++ post)))), some (.own (dints (N ++ (blk.take (j + 1) ++ Z.drop (j + 1))))), some fwl, some (.val (.int N.length)), wv, some (.val (.int pre.length)), some (.val (.int j))], rfl, ?_, j + 1, _, by lia, by rw [show blk.length - (j + 1) = k by lia], rfl⟩
    show execs (Gt n) N0 100 l_forwarded_1 [some (.val (il (pre ++ (blk ++ post)))), some (.own (dints (N ++ (blk.take j ++ Z.drop j)))), some fwl, some (.val (.int N.length)), wv, some (.val (.int pre.length)), some (.val (.int j))] = _
    rw [fwd_body n (by lia) (by lia) hg (by lia) (by simp; lia) (by simp; lia)]
    have e3 : ((N.length : Int) + (j : Int)).toNat = (N ++ blk.take j).length := by simp; lia
    rw [e3, e1, e2, show N ++ (blk.take j ++ Z[j] :: Z.drop (j + 1)) = (N ++ blk.take j) ++ Z[j] :: Z.drop (j + 1) by simp, set_mid]
    simp

section
variable (f : Int → List Int)
noncomputable def live : List Int → Nat
  | [] => 0
  | a :: r => (f a).length + 1 + live r
noncomputable def pl : List Int → Int → Nat
  | [], _ => 0
  | x :: xs, a => if x = a then 0 else (f x).length + 1 + pl xs a
noncomputable def raw (l : List Int) : List Int := l.flatMap fun a => ((f a).length : Int) :: f a
noncomputable def mend (P : Int → Nat) (w : Int) : Int := if w % 2 = 1 then 2 * (P (w / 2) : Int) + 1 else w
noncomputable def cooked (M : Int → Int) (l : List Int) : List Int := l.flatMap fun a => ((f a).length : Int) :: (f a).map M
noncomputable def fw (size : Nat) (met : List Int) : List Int := (List.range size).map fun (i : Nat) => if (i : Int) ∈ met then (pl f met i : Int) else -1
noncomputable def grow (met : List Int) (w : Int) : List Int := if w % 2 = 1 ∧ w / 2 ∉ met then ((f (w / 2)).length : Int) :: f (w / 2) else []
end
section
variable {f : Int → List Int}
theorem live_app : ∀ a b : List Int, live f (a ++ b) = live f a + live f b
  | [], b => by simp [live]
  | x :: a, b => by simp [live, live_app a b]; lia
theorem raw_len : ∀ l : List Int, (raw f l).length = live f l
  | [] => rfl
  | a :: l => by have := raw_len l; simp [raw, live] at this ⊢; lia
theorem cooked_len (M : Int → Int) : ∀ l : List Int, (cooked f M l).length = live f l
  | [] => rfl
  | a :: l => by have := cooked_len M l; simp [cooked, live] at this ⊢; lia
theorem pl_app {a : Int} : ∀ {met : List Int} (l : List Int), a ∈ met → pl f (met ++ l) a = pl f met a
  | x :: met, l, h => by
    by_cases e : x = a
    · simp [pl, e]
    · have h' : a ∈ met := (List.mem_cons.mp h).resolve_left fun q => e q.symm
      simp [pl, e, pl_app l h']
theorem pl_end {a : Int} : ∀ {met : List Int} (l : List Int), a ∉ met → pl f (met ++ a :: l) a = live f met
  | [], l, h => by simp [pl, live]
  | x :: met, l, h => by
    have h' : ¬ a = x ∧ a ∉ met := by simpa [not_or] using h
    have e : ¬ x = a := fun q => h'.1 q.symm
    simp [pl, live, e, pl_end l h'.2]
theorem pl_lt {a : Int} : ∀ {met : List Int}, a ∈ met → pl f met a + ((f a).length + 1) ≤ live f met
  | x :: met, h => by
    by_cases e : x = a
    · subst e; simp [pl, live]
    · have h' : a ∈ met := (List.mem_cons.mp h).resolve_left fun q => e q.symm
      have := pl_lt h'
      simp [pl, live, e]; lia
theorem fw_len (size : Nat) (met : List Int) : (fw f size met).length = size := by simp [fw]
theorem fw_nil (size : Nat) : fw f size [] = List.replicate size (-1) := by simp [fw, List.map_const']
theorem fw_get {size : Nat} {met : List Int} {a : Int} (h0 : 0 ≤ a) (h : a.toNat < size) : (fw f size met)[a.toNat]? = some (if a ∈ met then (pl f met a : Int) else -1) := by
  have : ((a.toNat : Nat) : Int) = a := by lia
  simp [fw, h, this]
theorem fw_set {size : Nat} {met : List Int} {a : Int} (h0 : 0 ≤ a) (h : a.toNat < size) (hn : a ∉ met) : (fw f size met).set a.toNat (live f met : Int) = fw f size (met ++ [a]) := by
  have ea : ((a.toNat : Nat) : Int) = a := by lia
  apply List.ext_getElem?
  intro i
  rw [List.getElem?_set]
  by_cases hi : a.toNat = i
  · subst hi
    simp [fw, h, ea, pl_end [] hn]
  · rw [if_neg hi]
    have hne : ¬ (i : Int) = a := fun e => hi (by lia)
    by_cases his : i < size
    · simp only [fw, List.getElem?_map, List.getElem?_range his, Option.map_some, Option.some.injEq]
      by_cases hm : (i : Int) ∈ met
      · simp [hm, pl_app [a] hm]
      · simp [hm, hne]
    · simp [fw, his]
end

theorem forwarded_run (n : Nat) {f : Int → List Int} {mem met N : List Int} {w : Int} (hm : mem.length < 1000) (hN : N.length = live f met) (hw : w % 2 = 1 → ObjAt mem (w / 2) (f (w / 2))) (hsz : live f (add met w) ≤ mem.length) :
    Gt (n + 2) "forwarded" [il mem, il (N ++ List.replicate (mem.length - live f met) 0), il (fw f mem.length met), .int (live f met), .int w]
      = some (.tup [.own (dints (N ++ grow f met w ++ List.replicate (mem.length - live f (add met w)) 0)), .own (dints (fw f mem.length (add met w))), .val (.int (live f (add met w))), .val (.int (mend (pl f (add met w)) w))]) := by
  rw [gt_run (b := b_forwarded) (vs := vs_forwarded) rfl rfl]
  have hlm : live f met ≤ live f (add met w) := by
    unfold add
    split
    · rw [live_app]; lia
    · exact Nat.le_refl _
  have hl1 : N.length + (mem.length - live f met) ≤ 4096 := by lia
  have hl2 : (fw f mem.length met).length ≤ 4096 := by rw [fw_len]; lia
  by_cases h1 : w % 2 = 1
  · obtain ⟨pre, post, hmem, ha⟩ := hw h1
    have hal : (w / 2).toNat < mem.length := by rw [hmem, ha]; simp
    have ha0 : 0 ≤ w / 2 := by lia
    have hg := fw_get (f := f) (met := met) ha0 hal
    have ha4 : w / 2 < 4096 := by lia
    by_cases h2 : w / 2 ∈ met
    · have hadd : add met w = met := by simp [add, h2]
      rw [if_pos h2] at hg
      have hp := pl_lt (f := f) h2
      rw [hadd] at hsz
      have hnn : ¬ (pl f met (w / 2) : Int) < 0 := by lia
      have hpt := pointer_to_run n (pl f met (w / 2) : Int) (by lia)
      simp [b_forwarded, vs_forwarded, run_, rt_ret, rt_next, es_nil, es_cons, nx_next, nx_brk, nx_ret, ex_assign, setV_some, ex_assignO, setR_some, nxt_some, ex_take, tk_tup, tk2_own, ex_frz, fz_some, fv_some, ex_unpack, un_tup, puts_nil, puts_cons, ex_setidx, si_int, si2_some, ex_append, ap_some, ex_ite, br_some, ex_for1, f1_some, ex_for2, f2_some, ex_while, ex_ret, rv_some, ex_ret2, r2_some, ex_brk, ex_laid, ld_some, ld2_some, ld3_some, evI_range, rg_some, evI_seq, sq_some, seq_il, rng_int, evO_call, cO_some, evO_lst, evO_bin, evO_list, ow_some, own_il, own_lst, ev_non, ev_bool, ev_int, ev_str, ev_var, ev_bin, bo_some, ev_neg, ng_some, negD_int, ev_cmp, cb_some, bl_some, ev_ite, ei_some, ev_call, cl_some, rD_val, rD_own, rD_tup, ev_bi, bf_some, ev_idx, ix_none, ix_some, cp_vi, cpt_none, cpt_val, cpt_own, cpt_tup, cv_val, cv_own, cp_vv, cp_vb, cp_vc, cp_vx, cp_vn, cp_c, cp_x, cp_s, cp_b, cp_f, ev_slc, s3_some, ev_lst, mko_some, ev_tup, tpo_some, ev_dic0, ev_comp, cm_some, evs_nil, evs_cons, cn_some, et_cmp, co_some, et_not, nt_some, et_and, an_some, et_or, or_some, et_ex, tb_some, eb_var, eb_non, eb_bool, eb_int, eb_str, eb_bin, eb_neg, eb_cmp, eb_ite, eb_call, eb_bi, eb_idx, eb_slc, eb_lst, eb_tup, eb_dic0, eb_comp, rd_zero, rd_succ, put_zero, put_succ, asg_put, toV_val, toB_val, toB_own, ownOf_, toO_own, toD_val, toD_own, toD_tup, ctoD_val, ctoD_own, cds_nil, cds_cons, cs2_some, bin_add, bin_sub, bin_mul, bin_fdiv, bin_mod, bi_len, bi_list, idx_il, idx_tup, idx_dic, add_il, rep_il, mk_nil, mk_one, mk_int, mk_dints, lst_dints, lst_nil, slc_il, slc_il0, slc_il1, cmp_eq, cmp_ne, cmp_lt, cmp_le, cmp_gt, cmp_ge, cmp_in, cmp_notin, ok_int, ok_il, eqb_int, eqb_il, lid, sto0, hl1, hl2, is_pointer_run, address_of_run, h1, ha0, ha4, dints_get, hg, hnn, hadd, grow, h2, mend, hpt]
    · have hadd : add met w = met ++ [w / 2] := by simp [add, h1, h2]
      rw [if_neg h2] at hg
      rw [hadd, live_app] at hsz
      simp only [live] at hsz
      have hmg : mem[(w / 2).toNat]? = some ((f (w / 2)).length : Int) := by rw [hmem, ha]; simp
      have hml : (f (w / 2)).length + 1 ≤ 4096 := by lia
      have hrg : rangeD (((f (w / 2)).length : Int) + 1) = some (rngI 0 ((f (w / 2)).length + 1)) := by
        have := rangeD_nat ((f (w / 2)).length + 1) hml
        simpa using this
      have hloop := fwd_loop (n + 1) (pre := pre) (blk := ((f (w / 2)).length : Int) :: f (w / 2)) (post := post) (N := N) (Z := List.replicate (mem.length - live f met) 0) (fwl := .own (dints (fw f mem.length met))) (wv := some (.val (.int w))) (by simp only [List.cons_append]; rw [← hmem]; lia) (by simp; lia) (by simp; lia)
      obtain ⟨jv, hloop⟩ := hloop
      simp only [List.cons_append, ← hmem, ← ha, hN, List.length_cons, List.drop_replicate] at hloop
      have hfs := fw_set (f := f) ha0 hal h2
      have hpt := pointer_to_run n (live f met : Int) (by lia)
      have hal' : w / 2 < (mem.length : Int) := by lia
      have hml' : mem.length ≤ 4096 := by lia
      have hfg : (fw f mem.length (met ++ [w / 2]))[(w / 2).toNat]? = some (live f met : Int) := by
        rw [fw_get ha0 hal, if_pos (by simp), pl_end [] h2]
      have hlv : live f (met ++ [w / 2]) = live f met + ((f (w / 2)).length + 1) := by rw [live_app]; simp [live]
      have hpe : pl f (met ++ [w / 2]) (w / 2) = live f met := pl_end [] h2
      obtain ⟨_, hg2⟩ := List.getElem?_eq_some_iff.mp hg
      obtain ⟨_, hmg2⟩ := List.getElem?_eq_some_iff.mp hmg
      obtain ⟨_, hfg2⟩ := List.getElem?_eq_some_iff.mp hfg
      simp [b_forwarded, vs_forwarded, run_, rt_ret, rt_next, es_nil, es_cons, nx_next, nx_brk, nx_ret, ex_assign, setV_some, ex_assignO, setR_some, nxt_some, ex_take, tk_tup, tk2_own, ex_frz, fz_some, fv_some, ex_unpack, un_tup, puts_nil, puts_cons, ex_setidx, si_int, si2_some, ex_append, ap_some, ex_ite, br_some, ex_for1, f1_some, ex_for2, f2_some, ex_while, ex_ret, rv_some, ex_ret2, r2_some, ex_brk, ex_laid, ld_some, ld2_some, ld3_some, evI_range, rg_some, evI_seq, sq_some, seq_il, rng_int, evO_call, cO_some, evO_lst, evO_bin, evO_list, ow_some, own_il, own_lst, ev_non, ev_bool, ev_int, ev_str, ev_var, ev_bin, bo_some, ev_neg, ng_some, negD_int, ev_cmp, cb_some, bl_some, ev_ite, ei_some, ev_call, cl_some, rD_val, rD_own, rD_tup, ev_bi, bf_some, ev_idx, ix_none, ix_some, cp_vi, cpt_none, cpt_val, cpt_own, cpt_tup, cv_val, cv_own, cp_vv, cp_vb, cp_vc, cp_vx, cp_vn, cp_c, cp_x, cp_s, cp_b, cp_f, ev_slc, s3_some, ev_lst, mko_some, ev_tup, tpo_some, ev_dic0, ev_comp, cm_some, evs_nil, evs_cons, cn_some, et_cmp, co_some, et_not, nt_some, et_and, an_some, et_or, or_some, et_ex, tb_some, eb_var, eb_non, eb_bool, eb_int, eb_str, eb_bin, eb_neg, eb_cmp, eb_ite, eb_call, eb_bi, eb_idx, eb_slc, eb_lst, eb_tup, eb_dic0, eb_comp, rd_zero, rd_succ, put_zero, put_succ, asg_put, toV_val, toB_val, toB_own, ownOf_, toO_own, toD_val, toD_own, toD_tup, ctoD_val, ctoD_own, cds_nil, cds_cons, cs2_some, bin_add, bin_sub, bin_mul, bin_fdiv, bin_mod, bi_len, bi_list, idx_il, idx_tup, idx_dic, add_il, rep_il, mk_nil, mk_one, mk_int, mk_dints, lst_dints, lst_nil, slc_il, slc_il0, slc_il1, cmp_eq, cmp_ne, cmp_lt, cmp_le, cmp_gt, cmp_ge, cmp_in, cmp_notin, ok_int, ok_il, eqb_int, eqb_il, lid, sto0, hl1, hl2, is_pointer_run, address_of_run, h1, ha0, ha4, dints_get, hg2, hadd, grow, h2, mend, hpt, hmg2, hrg, hloop, dints_len, fw_len, hal', hml', dints_set, hfs, hfg2, hlv, hpe]
      exact ⟨by rw [Nat.sub_sub], by lia⟩
  · have hadd : add met w = met := by simp [add, h1]
    simp [b_forwarded, vs_forwarded, run_, rt_ret, rt_next, es_nil, es_cons, nx_next, nx_brk, nx_ret, ex_assign, setV_some, ex_assignO, setR_some, nxt_some, ex_take, tk_tup, tk2_own, ex_frz, fz_some, fv_some, ex_unpack, un_tup, puts_nil, puts_cons, ex_setidx, si_int, si2_some, ex_append, ap_some, ex_ite, br_some, ex_for1, f1_some, ex_for2, f2_some, ex_while, ex_ret, rv_some, ex_ret2, r2_some, ex_brk, ex_laid, ld_some, ld2_some, ld3_some, evI_range, rg_some, evI_seq, sq_some, seq_il, rng_int, evO_call, cO_some, evO_lst, evO_bin, evO_list, ow_some, own_il, own_lst, ev_non, ev_bool, ev_int, ev_str, ev_var, ev_bin, bo_some, ev_neg, ng_some, negD_int, ev_cmp, cb_some, bl_some, ev_ite, ei_some, ev_call, cl_some, rD_val, rD_own, rD_tup, ev_bi, bf_some, ev_idx, ix_none, ix_some, cp_vi, cpt_none, cpt_val, cpt_own, cpt_tup, cv_val, cv_own, cp_vv, cp_vb, cp_vc, cp_vx, cp_vn, cp_c, cp_x, cp_s, cp_b, cp_f, ev_slc, s3_some, ev_lst, mko_some, ev_tup, tpo_some, ev_dic0, ev_comp, cm_some, evs_nil, evs_cons, cn_some, et_cmp, co_some, et_not, nt_some, et_and, an_some, et_or, or_some, et_ex, tb_some, eb_var, eb_non, eb_bool, eb_int, eb_str, eb_bin, eb_neg, eb_cmp, eb_ite, eb_call, eb_bi, eb_idx, eb_slc, eb_lst, eb_tup, eb_dic0, eb_comp, rd_zero, rd_succ, put_zero, put_succ, asg_put, toV_val, toB_val, toB_own, ownOf_, toO_own, toD_val, toD_own, toD_tup, ctoD_val, ctoD_own, cds_nil, cds_cons, cs2_some, bin_add, bin_sub, bin_mul, bin_fdiv, bin_mod, bi_len, bi_list, idx_il, idx_tup, idx_dic, add_il, rep_il, mk_nil, mk_one, mk_int, mk_dints, lst_dints, lst_nil, slc_il, slc_il0, slc_il1, cmp_eq, cmp_ne, cmp_lt, cmp_le, cmp_gt, cmp_ge, cmp_in, cmp_notin, ok_int, ok_il, eqb_int, eqb_il, lid, sto0, hl1, hl2, is_pointer_run, h1, hadd, grow, mend]
end Mine

set_option maxRecDepth 10000
set_option linter.unusedSimpArgs false
set_option linter.unusedVariables false
namespace Mine
open PySem

section
variable {f : Int → List Int}
theorem Go.prefix {k : Nat} {met q r : List Int} (g : Go f k met q r) : ∃ t, r = met ++ t := by
  induction g with
  | nil => exact ⟨[], by simp⟩
  | skip _ _ ih => exact ih
  | new _ _ _ ih => obtain ⟨t, rfl⟩ := ih; exact ⟨_, List.append_assoc _ _ _⟩
theorem Go.one {k : Nat} {met q r : List Int} {w : Int} {p : Nat} (g : Go f k met (w :: (q ++ (met.drop p).flatMap f)) r) (hp : p ≤ met.length) : ∃ k', Go f k' (add met w) (q ++ ((add met w).drop p).flatMap f) r := by
  cases g with
  | skip h g => rw [add, if_neg h]; exact ⟨_, g⟩
  | new h1 h2 g =>
    rw [add, if_pos ⟨h1, h2⟩, List.drop_append_of_le_length hp, List.flatMap_append]
    exact ⟨_, by simpa using g⟩
theorem add_sub (met : List Int) (w : Int) : ∃ t, add met w = met ++ t := by
  unfold add
  split
  · exact ⟨_, rfl⟩
  · exact ⟨[], by simp⟩
theorem raw_grow (met : List Int) (w : Int) : raw f met ++ grow f met w = raw f (add met w) := by
  unfold grow add
  split <;> simp [raw]
theorem mend_of {met r : List Int} {w : Int} (h : ∃ t, r = met ++ t) (hw : w % 2 = 1 → w / 2 ∈ met) : mend (pl f met) w = mend (pl f r) w := by
  obtain ⟨t, rfl⟩ := h
  unfold mend
  split
  · rw [pl_app t (hw ‹_›)]
  · rfl
theorem add_mem {met : List Int} {w : Int} (h : w % 2 = 1) : w / 2 ∈ add met w := by
  unfold add
  by_cases h2 : w / 2 ∈ met
  · simp [h2]
  · simp [h, h2]
end

noncomputable def cS (mem : List Int) (rts sz : Option R) (new fwl : List Int) (top : Int) (mv wv sc stv iv : Option R) : Sto := [some (.val (il mem)), rts, sz, some (.own (dints new)), some (.own (dints fwl)), some (.val (.int top)), mv, wv, sc, stv, iv]
noncomputable def sT (top w : Int) : Option R := some (.tup [.gone, .gone, .val (.int top), .val (.int w)])

theorem copy_body1 (n : Nat) {mem new fwl new1 fwl1 mv : List Int} {top w top1 w1 : Int} {rts sz sc stv iv : Option R}
    (hf : Gt n "forwarded" [il mem, il new, il fwl, .int top, .int w] = some (.tup [.own (dints new1), .own (dints fwl1), .val (.int top1), .val (.int w1)])) (hmv : mv.length < 4096) :
    execs (Gt n) N0 100 l_collected_by_copying_1 (cS mem rts sz new fwl top (some (.own (dints mv))) (some (.val (.int w))) sc stv iv)
      = some (.next (cS mem rts sz new1 fwl1 top1 (some (.own (dints (mv ++ [w1])))) (some (.val (.int w))) sc (sT top1 w1) iv)) := by
  simp [l_collected_by_copying_1, cS, sT, run_, rt_ret, rt_next, es_nil, es_cons, nx_next, nx_brk, nx_ret, ex_assign, setV_some, ex_assignO, setR_some, nxt_some, ex_take, tk_tup, tk2_own, ex_frz, fz_some, fv_some, ex_unpack, un_tup, puts_nil, puts_cons, ex_setidx, si_int, si2_some, ex_append, ap_some, ex_ite, br_some, ex_for1, f1_some, ex_for2, f2_some, ex_while, ex_ret, rv_some, ex_ret2, r2_some, ex_brk, ex_laid, ld_some, ld2_some, ld3_some, evI_range, rg_some, evI_seq, sq_some, seq_il, rng_int, evO_call, cO_some, evO_lst, evO_bin, evO_list, ow_some, own_il, own_lst, ev_non, ev_bool, ev_int, ev_str, ev_var, ev_bin, bo_some, ev_neg, ng_some, negD_int, ev_cmp, cb_some, bl_some, ev_ite, ei_some, ev_call, cl_some, rD_val, rD_own, rD_tup, ev_bi, bf_some, ev_idx, ix_none, ix_some, cp_vi, cpt_none, cpt_val, cpt_own, cpt_tup, cv_val, cv_own, cp_vv, cp_vb, cp_vc, cp_vx, cp_vn, cp_c, cp_x, cp_s, cp_b, cp_f, ev_slc, s3_some, ev_lst, mko_some, ev_tup, tpo_some, ev_dic0, ev_comp, cm_some, evs_nil, evs_cons, cn_some, et_cmp, co_some, et_not, nt_some, et_and, an_some, et_or, or_some, et_ex, tb_some, eb_var, eb_non, eb_bool, eb_int, eb_str, eb_bin, eb_neg, eb_cmp, eb_ite, eb_call, eb_bi, eb_idx, eb_slc, eb_lst, eb_tup, eb_dic0, eb_comp, rd_zero, rd_succ, put_zero, put_succ, asg_put, toV_val, toB_val, toB_own, ownOf_, toO_own, toD_val, toD_own, toD_tup, ctoD_val, ctoD_own, cds_nil, cds_cons, cs2_some, bin_add, bin_sub, bin_mul, bin_fdiv, bin_mod, bi_len, bi_list, idx_il, idx_tup, idx_dic, add_il, rep_il, mk_nil, mk_one, mk_int, mk_dints, lst_dints, lst_nil, slc_il, slc_il0, slc_il1, cmp_eq, cmp_ne, cmp_lt, cmp_le, cmp_gt, cmp_ge, cmp_in, cmp_notin, ok_int, ok_il, eqb_int, eqb_il, lid, sto0, hf, hmv, dints_len, dints_app]

theorem copy_body3 (n : Nat) {mem new fwl new1 fwl1 : List Int} {top w top1 w1 scan i : Int} {rts sz mv wv stv : Option R} (h0 : 0 ≤ scan + 1 + i) (h4 : scan + 1 + i < 4096) (hget : new[(scan + 1 + i).toNat]? = some w)
    (hf : Gt n "forwarded" [il mem, il new, il fwl, .int top, .int w] = some (.tup [.own (dints new1), .own (dints fwl1), .val (.int top1), .val (.int w1)])) (hlt : scan + 1 + i < new1.length) (hl : new1.length ≤ 4096) :
    execs (Gt n) N0 100 l_collected_by_copying_3 (cS mem rts sz new fwl top mv wv (some (.val (.int scan))) stv (some (.val (.int i))))
      = some (.next (cS mem rts sz (new1.set (scan + 1 + i).toNat w1) fwl1 top1 mv wv (some (.val (.int scan))) (sT top1 w1) (some (.val (.int i))))) := by
  simp [l_collected_by_copying_3, cS, sT, run_, rt_ret, rt_next, es_nil, es_cons, nx_next, nx_brk, nx_ret, ex_assign, setV_some, ex_assignO, setR_some, nxt_some, ex_take, tk_tup, tk2_own, ex_frz, fz_some, fv_some, ex_unpack, un_tup, puts_nil, puts_cons, ex_setidx, si_int, si2_some, ex_append, ap_some, ex_ite, br_some, ex_for1, f1_some, ex_for2, f2_some, ex_while, ex_ret, rv_some, ex_ret2, r2_some, ex_brk, ex_laid, ld_some, ld2_some, ld3_some, evI_range, rg_some, evI_seq, sq_some, seq_il, rng_int, evO_call, cO_some, evO_lst, evO_bin, evO_list, ow_some, own_il, own_lst, ev_non, ev_bool, ev_int, ev_str, ev_var, ev_bin, bo_some, ev_neg, ng_some, negD_int, ev_cmp, cb_some, bl_some, ev_ite, ei_some, ev_call, cl_some, rD_val, rD_own, rD_tup, ev_bi, bf_some, ev_idx, ix_none, ix_some, cp_vi, cpt_none, cpt_val, cpt_own, cpt_tup, cv_val, cv_own, cp_vv, cp_vb, cp_vc, cp_vx, cp_vn, cp_c, cp_x, cp_s, cp_b, cp_f, ev_slc, s3_some, ev_lst, mko_some, ev_tup, tpo_some, ev_dic0, ev_comp, cm_some, evs_nil, evs_cons, cn_some, et_cmp, co_some, et_not, nt_some, et_and, an_some, et_or, or_some, et_ex, tb_some, eb_var, eb_non, eb_bool, eb_int, eb_str, eb_bin, eb_neg, eb_cmp, eb_ite, eb_call, eb_bi, eb_idx, eb_slc, eb_lst, eb_tup, eb_dic0, eb_comp, rd_zero, rd_succ, put_zero, put_succ, asg_put, toV_val, toB_val, toB_own, ownOf_, toO_own, toD_val, toD_own, toD_tup, ctoD_val, ctoD_own, cds_nil, cds_cons, cs2_some, bin_add, bin_sub, bin_mul, bin_fdiv, bin_mod, bi_len, bi_list, idx_il, idx_tup, idx_dic, add_il, rep_il, mk_nil, mk_one, mk_int, mk_dints, lst_dints, lst_nil, slc_il, slc_il0, slc_il1, cmp_eq, cmp_ne, cmp_lt, cmp_le, cmp_gt, cmp_ge, cmp_in, cmp_notin, ok_int, ok_il, eqb_int, eqb_il, lid, sto0, hf, h0, h4, hget, hlt, hl, dints_len, dints_set]

/-- the store in the loop over the roots -/
noncomputable def cR (f : Int → List Int) (mem r : List Int) (rts sz : Option R) (met done : List Int) (wv stv : Option R) : Sto :=
  cS mem rts sz (raw f met ++ List.replicate (mem.length - live f met) 0) (fw f mem.length met) (live f met) (some (.own (dints (done.map (mend (pl f r)))))) wv none stv none

theorem copy_roots (n : Nat) {f : Int → List Int} {mem roots r : List Int} {k : Nat} {rts sz : Option R} (hm : mem.length < 1000) (g : Go f k [] roots r) (hroots : roots.length < 1000) (hobj : ∀ a ∈ r, ObjAt mem a (f a)) (hsz : live f r ≤ mem.length) :
    ∃ met k' wv stv, Go f k' met (met.flatMap f) r ∧ fo (asg 7) (execs (Gt (n + 2)) N0 100 l_collected_by_copying_1) (dints roots) (cS mem rts sz (List.replicate mem.length 0) (List.replicate mem.length (-1)) 0 (some (.own (dints []))) none none none none)
      = some (.next (cR f mem r rts sz met roots wv stv)) := by
  have key := fo_list (a := asg 7) (b := execs (Gt (n + 2)) N0 100 l_collected_by_copying_1) (fun rem σ => ∃ (met ws done : List Int) (k : Nat) (wv stv : Option R), rem = dints ws ∧ roots = done ++ ws ∧ Go f k met (ws ++ met.flatMap f) r ∧ σ = cR f mem r rts sz met done wv stv)
    (fun o => ∃ met k' wv stv, Go f k' met (met.flatMap f) r ∧ o = .next (cR f mem r rts sz met roots wv stv)) ?_ ?_ (dints roots)
    (cS mem rts sz (List.replicate mem.length 0) (List.replicate mem.length (-1)) 0 (some (.own (dints []))) none none none none) ⟨[], roots, [], k, none, none, rfl, rfl, by rw [List.flatMap_nil, List.append_nil]; exact g, ?_⟩
  · obtain ⟨o, h1, met, k', wv, stv, h2, rfl⟩ := key
    exact ⟨met, k', wv, stv, h2, h1⟩
  · rintro σ ⟨met, ws, done, k, wv, stv, hr, hd, g, rfl⟩
    have : ws = [] := by cases ws with | nil => rfl | cons _ _ => cases hr
    subst this
    rw [List.append_nil] at hd
    subst hd
    exact ⟨met, k, wv, stv, g, rfl⟩
  · rintro x rr σ ⟨met, ws, done, k, wv, stv, hr, hd, g, rfl⟩
    cases ws with
    | nil => cases hr
    | cons w ws =>
      rw [dints_cons] at hr
      cases hr
      rw [List.cons_append] at g
      obtain ⟨k', g'⟩ := Go.one (p := 0) (by rw [List.drop_zero]; exact g) (Nat.zero_le _)
      rw [List.drop_zero] at g'
      obtain ⟨t, ht⟩ := g'.prefix
      have hlv : live f (add met w) ≤ mem.length := by rw [ht, live_app] at hsz; exact Nat.le_trans (Nat.le_add_right _ _) hsz
      have hw : w % 2 = 1 → ObjAt mem (w / 2) (f (w / 2)) := fun h => hobj _ (g'.mem _ (add_mem h))
      have hf := forwarded_run n (N := raw f met) hm (raw_len met) hw hlv
      rw [raw_grow, mend_of ⟨t, ht⟩ fun h => add_mem h] at hf
      refine ⟨_, _, rfl, copy_body1 (n + 2) hf ?_, add met w, ws, done ++ [w], k', some (.val (.int w)), sT (live f (add met w)) (mend (pl f r) w), rfl, by rw [hd, List.append_assoc]; rfl, g', by rw [cR, List.map_append]; rfl⟩
      rw [List.length_map]
      rw [hd, List.length_append] at hroots
      exact Nat.lt_trans (Nat.lt_of_le_of_lt (Nat.le_add_right _ _) hroots) (by decide)
  · show _ = cS mem rts sz (List.replicate (mem.length - 0) 0) (fw f mem.length []) 0 (some (.own (dints []))) none none none none
    rw [fw_nil]
    rfl

/-- the store in the loop over one object's words -/
noncomputable def cI (f : Int → List Int) (mem r L : List Int) (a : Int) (rts sz mv wv : Option R) (done todo T : List Int) (stv iv : Option R) : Sto :=
  cS mem rts sz (cooked f (mend (pl f r)) L ++ ((f a).length : Int) :: (done.map (mend (pl f r)) ++ (todo ++ raw f T)) ++ List.replicate (mem.length - live f (L ++ a :: T)) 0) (fw f mem.length (L ++ a :: T)) (live f (L ++ a :: T)) mv wv (some (.val (.int (live f L)))) stv iv

theorem ci_len (C D E F : List Int) (x : Int) : (C ++ x :: (D ++ (E ++ F))).length = C.length + (D.length + (E.length + F.length) + 1) := by simp only [List.length_append, List.length_cons]
theorem ci_len2 (P E F Z : List Int) (x : Int) : (P ++ x :: (E ++ (F ++ Z))).length = P.length + (E.length + (F.length + Z.length) + 1) := by simp only [List.length_append, List.length_cons]
theorem ci_re1 (C D E F Z : List Int) (x w : Int) : C ++ x :: (D ++ (w :: E ++ F)) ++ Z = (C ++ x :: D) ++ w :: (E ++ (F ++ Z)) := by simp only [List.append_assoc, List.cons_append]
theorem ci_re2 (C D E F G Z : List Int) (x w : Int) : C ++ x :: (D ++ (w :: E ++ F)) ++ G ++ Z = (C ++ x :: D) ++ w :: (E ++ ((F ++ G) ++ Z)) := by simp only [List.append_assoc, List.cons_append]
theorem ci_re3 (C D E F Z : List Int) (x w : Int) : C ++ x :: ((D ++ [w]) ++ (E ++ F)) ++ Z = (C ++ x :: D) ++ w :: (E ++ (F ++ Z)) := by simp only [List.append_assoc, List.cons_append, List.nil_append]
theorem ci_q1 {c m i t : Nat} (h : i < m) : c + (min i m + (m - i + t) + 1) = c + (m + 1 + t) := by lia
theorem ci_q2 {c m i t l : Nat} (h : i < m) (hl : c + (m + 1 + t) ≤ l) : c + 1 + i + (m - (i + 1) + (t + (l - (c + (m + 1 + t)))) + 1) = l := by lia
theorem ci_q3 {c m i t l : Nat} (h : i < m) (hl : c + (m + 1 + t) ≤ l) (h4 : l < 1000) : (c : Int) + 1 + (i : Int) < 4096 := by lia
theorem ci_q4 {c m i t l : Nat} (h : i < m) (hl : c + (m + 1 + t) ≤ l) : (c : Int) + 1 + (i : Int) < (l : Int) := by lia
theorem ci_pos {c i : Nat} : 0 ≤ (c : Int) + 1 + (i : Int) := by lia
theorem ci_tn (c i : Nat) : ((c : Int) + 1 + (i : Int)).toNat = c + 1 + i := by lia
theorem raw_mid (f : Int → List Int) (L T : List Int) (a : Int) : raw f (L ++ a :: T) = raw f L ++ ((f a).length : Int) :: (f a ++ raw f T) := by rw [raw, List.flatMap_append, List.flatMap_cons]; rfl

theorem copy_inner (n : Nat) {f : Int → List Int} {mem r L : List Int} {a : Int} {k : Nat} {rts sz mv wv : Option R} (hm : mem.length < 1000) (hobj : ∀ a ∈ r, ObjAt mem a (f a)) (hsz : live f r ≤ mem.length) {T₀ : List Int} {stv iv : Option R}
    (g : Go f k (L ++ a :: T₀) (f a ++ T₀.flatMap f) r) :
    ∃ T k' stv' iv', Go f k' (L ++ a :: T) (T.flatMap f) r ∧ fo (asg 10) (execs (Gt (n + 2)) N0 100 l_collected_by_copying_3) (rngI 0 (f a).length)
      (cI f mem r L a rts sz mv wv [] (f a) T₀ stv iv) = some (.next (cI f mem r L a rts sz mv wv (f a) [] T stv' iv')) := by
  have key := fo_list (a := asg 10) (b := execs (Gt (n + 2)) N0 100 l_collected_by_copying_3) (fun rem σ => ∃ (i : Nat) (T : List Int) (k : Nat) (stv iv : Option R), i ≤ (f a).length ∧ rem = rngI i ((f a).length - i) ∧ Go f k (L ++ a :: T) ((f a).drop i ++ T.flatMap f) r ∧
      σ = cI f mem r L a rts sz mv wv ((f a).take i) ((f a).drop i) T stv iv)
    (fun o => ∃ T k' stv' iv', Go f k' (L ++ a :: T) (T.flatMap f) r ∧ o = .next (cI f mem r L a rts sz mv wv (f a) [] T stv' iv')) ?_ ?_ (rngI 0 (f a).length) _
    ⟨0, T₀, k, stv, iv, Nat.zero_le _, rfl, g, rfl⟩
  · obtain ⟨o, h1, T, k', s', i', h2, rfl⟩ := key
    exact ⟨T, k', s', i', h2, h1⟩
  · rintro σ ⟨i, T, k, stv, iv, hi, hr, g, rfl⟩
    have : i = (f a).length := rng_end hi hr
    subst this
    rw [List.drop_length, List.nil_append] at g
    rw [List.drop_length, List.take_length]
    exact ⟨T, k, stv, iv, g, rfl⟩
  · rintro x rr σ ⟨i, T, k, stv, iv, hi, hr, g, rfl⟩
    obtain ⟨hil, rfl, rfl⟩ := rng_more hr
    clear hr hi
    obtain ⟨w, hw⟩ : ∃ w, (f a)[i]? = some w := ⟨(f a)[i], List.getElem?_eq_getElem hil⟩
    have e1 : (f a).take (i + 1) = (f a).take i ++ [w] := by rw [List.take_add_one, hw]; rfl
    have e2 : (f a).drop i = w :: (f a).drop (i + 1) := by
      rw [List.drop_eq_getElem_cons hil]
      rw [List.getElem?_eq_getElem hil] at hw
      rw [Option.some.inj hw]
    have hdT : ∀ T' : List Int, (L ++ a :: T').drop (L.length + 1) = T' := fun T' => by
      rw [← List.drop_drop, List.drop_left]; rfl
    rw [e2, List.cons_append] at g
    obtain ⟨k', g'⟩ := Go.one (f := f) (met := L ++ a :: T) (p := L.length + 1) (q := (f a).drop (i + 1)) (w := w) (r := r) (k := k) (by rw [hdT]; exact g) (by rw [List.length_append]; exact Nat.add_le_add_left (Nat.succ_le_succ (Nat.zero_le _)) _)
    obtain ⟨t, ht⟩ := add_sub (L ++ a :: T) w
    have ht' : add (L ++ a :: T) w = L ++ a :: (T ++ t) := by rw [ht, List.append_assoc]; rfl
    obtain ⟨tt, htt⟩ := g'.prefix
    have hlv : live f (add (L ++ a :: T) w) ≤ mem.length := by rw [htt, live_app] at hsz; exact Nat.le_trans (Nat.le_add_right _ _) hsz
    have hwo : w % 2 = 1 → ObjAt mem (w / 2) (f (w / 2)) := fun h => hobj _ (g'.mem _ (add_mem h))
    have hcl := cooked_len (f := f) (mend (pl f r)) L
    have hAl : (cooked f (mend (pl f r)) L ++ ((f a).length : Int) :: ((f a).take i).map (mend (pl f r))).length = live f L + 1 + i := by
      rw [List.length_append, hcl, List.length_cons, List.length_map, List.length_take, Nat.min_eq_left (Nat.le_of_lt hil), Nat.add_assoc, Nat.add_comm 1]
    have hll : live f (L ++ a :: T) = live f L + ((f a).length + 1 + live f T) := by rw [live_app, live]
    rw [ht', live_app, live] at hlv
    have hrl := raw_len (f := f) (T ++ t)
    have hgr : raw f T ++ grow f (L ++ a :: T) w = raw f (T ++ t) := by
      have h1 := raw_grow (f := f) (L ++ a :: T) w
      rw [ht', raw_mid, raw_mid, List.append_assoc, List.cons_append, List.append_assoc] at h1
      exact List.append_cancel_left (List.cons_inj_right _ |>.mp (List.append_cancel_left h1))
    have hf := forwarded_run n (N := cooked f (mend (pl f r)) L ++ ((f a).length : Int) :: (((f a).take i).map (mend (pl f r)) ++ ((f a).drop i ++ raw f T))) (met := L ++ a :: T) hm
      (by rw [ci_len, hcl, raw_len, List.length_map, List.length_take, List.length_drop, hll]; exact ci_q1 hil) hwo (by rw [ht', live_app, live]; exact hlv)
    rw [mend_of ⟨tt, htt⟩ fun h => add_mem h, ht'] at hf
    rw [ht', hdT] at g'
    rw [e2, ci_re2, hgr] at hf
    have hix : ((live f L : Int) + 1 + (i : Int)).toNat = (cooked f (mend (pl f r)) L ++ ((f a).length : Int) :: ((f a).take i).map (mend (pl f r))).length := by rw [hAl, ci_tn]
    have hb := copy_body3 (n + 2) (rts := rts) (sz := sz) (mv := mv) (wv := wv) (stv := stv) (scan := (live f L : Int)) (i := (i : Int)) (w := w) ci_pos (ci_q3 hil hlv hm) (by
      rw [hix, ci_re1]; exact get_mid _ _ _) hf (by
      rw [ci_len2, hAl, List.length_drop, List.length_replicate, hrl, live_app L (a :: (T ++ t)), live, ci_q2 hil hlv]; exact ci_q4 hil hlv) (by
      rw [ci_len2, hAl, List.length_drop, List.length_replicate, hrl, live_app L (a :: (T ++ t)), live, ci_q2 hil hlv]; exact Nat.le_trans (Nat.le_of_lt hm) (by decide))
    rw [hix, set_mid] at hb
    refine ⟨_, .next (cI f mem r L a rts sz mv wv ((f a).take (i + 1)) ((f a).drop (i + 1)) (T ++ t) (sT (live f (L ++ a :: (T ++ t))) (mend (pl f r) w)) (some (.val (.int i)))), rfl, ?_, i + 1, T ++ t, k', sT (live f (L ++ a :: (T ++ t))) (mend (pl f r) w), some (.val (.int i)), hil, rfl, g', rfl⟩
    rw [e1, e2]
    refine Eq.trans hb ?_
    rw [cI, List.map_append, List.map_singleton, ci_re3]

noncomputable def tailz (lv size : Nat) : List Int := if lv < size then ((lv : Int) - size) :: List.replicate (size - lv - 1) 0 else []

theorem copy_body2 (n : Nat) {mem new new1 fwl fwl1 : List Int} {scan l top top1 : Int} {rts sz mv wv stv iv stv1 iv1 : Option R} {xs : List D} (h0 : 0 ≤ scan) (h4 : scan < 4096) (hget : new[scan.toNat]? = some l) (hr : rangeD l = some xs)
    (hloop : fo (asg 10) (execs (Gt n) N0 100 l_collected_by_copying_3) xs (cS mem rts sz new fwl top mv wv (some (.val (.int scan))) stv iv) = some (.next (cS mem rts sz new1 fwl1 top1 mv wv (some (.val (.int scan))) stv1 iv1))) (hget1 : new1[scan.toNat]? = some l) :
    execs (Gt n) N0 100 l_collected_by_copying_2 (cS mem rts sz new fwl top mv wv (some (.val (.int scan))) stv iv) = some (.next (cS mem rts sz new1 fwl1 top1 mv wv (some (.val (.int (scan + l + 1)))) stv1 iv1)) := by
  unfold cS at hloop ⊢
  simp [l_collected_by_copying_2, run_, rt_ret, rt_next, es_nil, es_cons, nx_next, nx_brk, nx_ret, ex_assign, setV_some, ex_assignO, setR_some, nxt_some, ex_take, tk_tup, tk2_own, ex_frz, fz_some, fv_some, ex_unpack, un_tup, puts_nil, puts_cons, ex_setidx, si_int, si2_some, ex_append, ap_some, ex_ite, br_some, ex_for1, f1_some, ex_for2, f2_some, ex_while, ex_ret, rv_some, ex_ret2, r2_some, ex_brk, ex_laid, ld_some, ld2_some, ld3_some, evI_range, rg_some, evI_seq, sq_some, seq_il, rng_int, evO_call, cO_some, evO_lst, evO_bin, evO_list, ow_some, own_il, own_lst, ev_non, ev_bool, ev_int, ev_str, ev_var, ev_bin, bo_some, ev_neg, ng_some, negD_int, ev_cmp, cb_some, bl_some, ev_ite, ei_some, ev_call, cl_some, rD_val, rD_own, rD_tup, ev_bi, bf_some, ev_idx, ix_none, ix_some, cp_vi, cpt_none, cpt_val, cpt_own, cpt_tup, cv_val, cv_own, cp_vv, cp_vb, cp_vc, cp_vx, cp_vn, cp_c, cp_x, cp_s, cp_b, cp_f, ev_slc, s3_some, ev_lst, mko_some, ev_tup, tpo_some, ev_dic0, ev_comp, cm_some, evs_nil, evs_cons, cn_some, et_cmp, co_some, et_not, nt_some, et_and, an_some, et_or, or_some, et_ex, tb_some, eb_var, eb_non, eb_bool, eb_int, eb_str, eb_bin, eb_neg, eb_cmp, eb_ite, eb_call, eb_bi, eb_idx, eb_slc, eb_lst, eb_tup, eb_dic0, eb_comp, rd_zero, rd_succ, put_zero, put_succ, asg_put, toV_val, toB_val, toB_own, ownOf_, toO_own, toD_val, toD_own, toD_tup, ctoD_val, ctoD_own, cds_nil, cds_cons, cs2_some, bin_add, bin_sub, bin_mul, bin_fdiv, bin_mod, bi_len, bi_list, idx_il, idx_tup, idx_dic, add_il, rep_il, mk_nil, mk_one, mk_int, mk_dints, lst_dints, lst_nil, slc_il, slc_il0, slc_il1, cmp_eq, cmp_ne, cmp_lt, cmp_le, cmp_gt, cmp_ge, cmp_in, cmp_notin, ok_int, ok_il, eqb_int, eqb_il, lid, sto0, h0, h4, hget, hr, hloop, hget1]

/-- the store in the loop over the copies -/
noncomputable def cW (f : Int → List Int) (mem r : List Int) (rts sz mv wv : Option R) (L T : List Int) (stv iv : Option R) : Sto :=
  cS mem rts sz (cooked f (mend (pl f r)) L ++ raw f T ++ List.replicate (mem.length - live f (L ++ T)) 0) (fw f mem.length (L ++ T)) (live f (L ++ T)) mv wv (some (.val (.int (live f L)))) stv iv
theorem cw_re (C D F Z : List Int) (x : Int) : C ++ x :: (D ++ F) ++ Z = C ++ x :: (D ++ F ++ Z) := by simp only [List.append_assoc, List.cons_append]
theorem cw_re2 (C D F Z : List Int) (x : Int) : C ++ x :: (D ++ ([] ++ F)) ++ Z = (C ++ x :: D) ++ F ++ Z := by simp only [List.append_assoc, List.cons_append, List.nil_append]
theorem cooked_snoc (f : Int → List Int) (M : Int → Int) (L : List Int) (a : Int) : cooked f M (L ++ [a]) = cooked f M L ++ ((f a).length : Int) :: (f a).map M := by rw [cooked, List.flatMap_append, List.flatMap_singleton]; rfl

theorem cw_q1 {c m t l : Nat} (hl : c + (m + 1 + t) ≤ l) (h4 : l < 1000) : (c : Int) < 4096 := by lia
theorem cw_q2 {c m t l : Nat} (hl : c + (m + 1 + t) ≤ l) (h4 : l < 1000) : m ≤ 4096 := by lia
theorem cw_q3 {l t m : Nat} (h : l + (t + 1) ≤ m) : m - (l + 1) < m - l := by lia
theorem copy_while (n : Nat) {f : Int → List Int} {mem r met : List Int} {k : Nat} {rts sz mv wv stv : Option R} (hm : mem.length < 1000) (g : Go f k met (met.flatMap f) r) (hr99 : r.length < 99) (hobj : ∀ a ∈ r, ObjAt mem a (f a)) (hsz : live f r ≤ mem.length) :
    ∃ stv' iv', wh (tst (Gt (n + 2)) (.cmp .lt (.var 8) (.var 5))) (execs (Gt (n + 2)) N0 100 l_collected_by_copying_2) 100 (cW f mem r rts sz mv wv [] met stv none) = some (.next (cW f mem r rts sz mv wv r [] stv' iv')) := by
  have key := wh_ok (t := tst (Gt (n + 2)) (.cmp .lt (.var 8) (.var 5))) (b := execs (Gt (n + 2)) N0 100 l_collected_by_copying_2) (fun c σ => ∃ (L T : List Int) (k : Nat) (stv iv : Option R), c = r.length - L.length ∧ Go f k (L ++ T) (T.flatMap f) r ∧ σ = cW f mem r rts sz mv wv L T stv iv)
    (fun o => ∃ stv' iv', o = .next (cW f mem r rts sz mv wv r [] stv' iv')) ?_ 100 r.length (cW f mem r rts sz mv wv [] met stv none) (Nat.lt_trans hr99 (by decide)) ⟨[], met, k, stv, none, rfl, g, rfl⟩
  · obtain ⟨o, ho, stv', iv', rfl⟩ := key
    exact ⟨stv', iv', ho⟩
  rintro c σ ⟨L, T, k, stv, iv, hc, g, rfl⟩
  have hlv : live f (L ++ T) ≤ mem.length := by
    obtain ⟨t, ht⟩ := g.prefix
    rw [ht, live_app] at hsz; exact Nat.le_trans (Nat.le_add_right _ _) hsz
  have hll := g.len.1
  cases T with
  | nil =>
    rw [List.append_nil] at g
    cases g
    refine ⟨false, ?_, fun _ => ⟨stv, iv, rfl⟩, nofun⟩
    rw [cW, List.append_nil]
    show some (decide ((live f r : Int) < live f r)) = some false
    rw [decide_eq_false (Int.lt_irrefl _)]
  | cons a T =>
    have hlt : (live f L : Int) < live f (L ++ a :: T) := by rw [live_app, live]; lia
    refine ⟨true, ?_, nofun, fun _ => ?_⟩
    · show some (decide ((live f L : Int) < live f (L ++ a :: T))) = some true
      rw [decide_eq_true hlt]
    rw [List.flatMap_cons] at g
    obtain ⟨T', k', stv', iv', g', hloop⟩ := copy_inner n (rts := rts) (sz := sz) (mv := mv) (wv := wv) (stv := stv) (iv := iv) hm hobj hsz g
    have hcl := cooked_len (f := f) (mend (pl f r)) L
    rw [live_app, live] at hlv
    have hb := copy_body2 (n + 2) (scan := (live f L : Int)) (l := ((f a).length : Int)) (Int.natCast_nonneg _) (cw_q1 hlv hm) (by
      rw [Int.toNat_natCast, ← hcl, List.map_nil, List.nil_append, cw_re]; exact get_mid _ _ _) (rangeD_nat _ (cw_q2 hlv hm)) hloop (by
      rw [Int.toNat_natCast, ← hcl, cw_re]; exact get_mid _ _ _)
    refine ⟨_, hb, r.length - (L.length + 1), ?_, L ++ [a], T', k', stv', iv', by rw [List.length_append]; rfl, by rw [List.append_assoc]; exact g', ?_⟩
    · rw [List.length_append, List.length_cons] at hll
      rw [hc]
      exact cw_q3 hll
    · have e1 : (live f (L ++ [a]) : Int) = (live f L : Int) + (f a).length + 1 := by rw [live_app, live, live]; lia
      rw [cW, cooked_snoc, e1, List.append_assoc L, List.singleton_append, cw_re2]

theorem copying_run (n : Nat) {f : Int → List Int} {mem roots r : List Int} {k : Nat} (hm : mem.length < 1000) (hroots : roots.length < 1000) (g : Go f k [] roots r) (hr99 : r.length < 99) (hobj : ∀ a ∈ r, ObjAt mem a (f a)) (hsz : live f r ≤ mem.length) :
    Gt (n + 3) "collected_by_copying" [il mem, il roots] = some (.val (.tup [il (cooked f (mend (pl f r)) r ++ tailz (live f r) mem.length), il (roots.map (mend (pl f r)))])) := by
  rw [gt_run (b := b_collected_by_copying) (vs := vs_collected_by_copying) rfl rfl]
  obtain ⟨met, k', wv, stv, g', h₁⟩ := copy_roots n (rts := some (.val (il roots))) (sz := some (.val (.int mem.length))) hm g hroots hobj hsz
  obtain ⟨stv', iv', ho⟩ := copy_while n (rts := some (.val (il roots))) (sz := some (.val (.int mem.length))) (mv := some (.own (dints (roots.map (mend (pl f r)))))) (wv := wv) (stv := stv) hm g' hr99 hobj hsz
  have hl : roots.length ≤ 4096 := Nat.le_trans (Nat.le_of_lt hroots) (by decide)
  have hml : mem.length ≤ 4096 := Nat.le_trans (Nat.le_of_lt hm) (by decide)
  have hmi : (mem.length : Int) ≤ 4096 := Int.ofNat_le.mpr hml
  have hcl := cooked_len (f := f) (mend (pl f r)) r
  rw [cW, cW, List.append_nil r, List.nil_append] at ho
  unfold cR at h₁
  generalize hN : cooked f (mend (pl f r)) r ++ raw f [] ++ List.replicate (mem.length - live f r) 0 = N at ho
  have hNl : N.length = mem.length := by rw [← hN, List.length_append, List.length_append, hcl, List.length_replicate]; show live f r + 0 + _ = _; lia
  change wh _ _ _ (cS _ _ _ (raw f met ++ _) _ _ _ _ (some (.val (.int 0))) _ _) = _ at ho
  unfold cS at h₁ ho
  by_cases hlt : live f r < mem.length
  · have hset : N.set (live f r) ((live f r : Int) - mem.length) = cooked f (mend (pl f r)) r ++ tailz (live f r) mem.length := by
      obtain ⟨j, hj⟩ : ∃ j, mem.length - live f r = j + 1 := ⟨mem.length - live f r - 1, by lia⟩
      rw [← hN, hj, List.replicate_succ, ← hcl, show raw f [] = [] from rfl, List.append_nil, set_mid, tailz, if_pos (by rw [hcl]; exact hlt), hcl, hj]
      rfl
    have hli : (live f r : Int) < mem.length := Int.ofNat_lt.mpr hlt
    simp [b_collected_by_copying, vs_collected_by_copying, run_, rt_ret, rt_next, es_nil, es_cons, nx_next, nx_brk, nx_ret, ex_assign, setV_some, ex_assignO, setR_some, nxt_some, ex_take, tk_tup, tk2_own, ex_frz, fz_some, fv_some, ex_unpack, un_tup, puts_nil, puts_cons, ex_setidx, si_int, si2_some, ex_append, ap_some, ex_ite, br_some, ex_for1, f1_some, ex_for2, f2_some, ex_while, ex_ret, rv_some, ex_ret2, r2_some, ex_brk, ex_laid, ld_some, ld2_some, ld3_some, evI_range, rg_some, evI_seq, sq_some, seq_il, rng_int, evO_call, cO_some, evO_lst, evO_bin, evO_list, ow_some, own_il, own_lst, ev_non, ev_bool, ev_int, ev_str, ev_var, ev_bin, bo_some, ev_neg, ng_some, negD_int, ev_cmp, cb_some, bl_some, ev_ite, ei_some, ev_call, cl_some, rD_val, rD_own, rD_tup, ev_bi, bf_some, ev_idx, ix_none, ix_some, cp_vi, cpt_none, cpt_val, cpt_own, cpt_tup, cv_val, cv_own, cp_vv, cp_vb, cp_vc, cp_vx, cp_vn, cp_c, cp_x, cp_s, cp_b, cp_f, ev_slc, s3_some, ev_lst, mko_some, ev_tup, tpo_some, ev_dic0, ev_comp, cm_some, evs_nil, evs_cons, cn_some, et_cmp, co_some, et_not, nt_some, et_and, an_some, et_or, or_some, et_ex, tb_some, eb_var, eb_non, eb_bool, eb_int, eb_str, eb_bin, eb_neg, eb_cmp, eb_ite, eb_call, eb_bi, eb_idx, eb_slc, eb_lst, eb_tup, eb_dic0, eb_comp, rd_zero, rd_succ, put_zero, put_succ, asg_put, toV_val, toB_val, toB_own, ownOf_, toO_own, toD_val, toD_own, toD_tup, ctoD_val, ctoD_own, cds_nil, cds_cons, cs2_some, bin_add, bin_sub, bin_mul, bin_fdiv, bin_mod, bi_len, bi_list, idx_il, idx_tup, idx_dic, add_il, rep_il, mk_nil, mk_one, mk_int, mk_dints, lst_dints, lst_nil, slc_il, slc_il0, slc_il1, cmp_eq, cmp_ne, cmp_lt, cmp_le, cmp_gt, cmp_ge, cmp_in, cmp_notin, ok_int, ok_il, eqb_int, eqb_il, lid, sto0, hl, hml, hmi, h₁, ho, hlt, hli, dints_len, dints_set, hNl, hset]
  · have htz : tailz (live f r) mem.length = [] := by rw [tailz, if_neg hlt]
    have hz : N = cooked f (mend (pl f r)) r := by rw [← hN, show mem.length - live f r = 0 by lia, show raw f [] = [] from rfl, List.append_nil]; exact List.append_nil _
    rw [hz] at ho
    simp [b_collected_by_copying, vs_collected_by_copying, run_, rt_ret, rt_next, es_nil, es_cons, nx_next, nx_brk, nx_ret, ex_assign, setV_some, ex_assignO, setR_some, nxt_some, ex_take, tk_tup, tk2_own, ex_frz, fz_some, fv_some, ex_unpack, un_tup, puts_nil, puts_cons, ex_setidx, si_int, si2_some, ex_append, ap_some, ex_ite, br_some, ex_for1, f1_some, ex_for2, f2_some, ex_while, ex_ret, rv_some, ex_ret2, r2_some, ex_brk, ex_laid, ld_some, ld2_some, ld3_some, evI_range, rg_some, evI_seq, sq_some, seq_il, rng_int, evO_call, cO_some, evO_lst, evO_bin, evO_list, ow_some, own_il, own_lst, ev_non, ev_bool, ev_int, ev_str, ev_var, ev_bin, bo_some, ev_neg, ng_some, negD_int, ev_cmp, cb_some, bl_some, ev_ite, ei_some, ev_call, cl_some, rD_val, rD_own, rD_tup, ev_bi, bf_some, ev_idx, ix_none, ix_some, cp_vi, cpt_none, cpt_val, cpt_own, cpt_tup, cv_val, cv_own, cp_vv, cp_vb, cp_vc, cp_vx, cp_vn, cp_c, cp_x, cp_s, cp_b, cp_f, ev_slc, s3_some, ev_lst, mko_some, ev_tup, tpo_some, ev_dic0, ev_comp, cm_some, evs_nil, evs_cons, cn_some, et_cmp, co_some, et_not, nt_some, et_and, an_some, et_or, or_some, et_ex, tb_some, eb_var, eb_non, eb_bool, eb_int, eb_str, eb_bin, eb_neg, eb_cmp, eb_ite, eb_call, eb_bi, eb_idx, eb_slc, eb_lst, eb_tup, eb_dic0, eb_comp, rd_zero, rd_succ, put_zero, put_succ, asg_put, toV_val, toB_val, toB_own, ownOf_, toO_own, toD_val, toD_own, toD_tup, ctoD_val, ctoD_own, cds_nil, cds_cons, cs2_some, bin_add, bin_sub, bin_mul, bin_fdiv, bin_mod, bi_len, bi_list, idx_il, idx_tup, idx_dic, add_il, rep_il, mk_nil, mk_one, mk_int, mk_dints, lst_dints, lst_nil, slc_il, slc_il0, slc_il1, cmp_eq, cmp_ne, cmp_lt, cmp_le, cmp_gt, cmp_ge, cmp_in, cmp_notin, ok_int, ok_il, eqb_int, eqb_il, lid, sto0, hl, hml, hmi, h₁, ho, hlt, htz]
end Mine

set_option maxRecDepth 10000
set_option linter.unusedSimpArgs false
set_option linter.unusedVariables false
namespace Mine
open PySem

theorem mapO_ints {f : D → Option D} {g : Int → Int} : ∀ (ws : List Int), (∀ w ∈ ws, f (.int w) = some (.int (g w))) → mapO f (dints ws) = some (dints (ws.map g))
  | [], _ => rfl
  | w :: ws, h => by
    rw [dints_cons, mapO_cons, h w (.head _), mapO_ints ws fun x hx => h x (.tail _ hx)]
    rfl
theorem mapO_gen {f : D → Option D} {g : Int → D} : ∀ (ws : List Int), (∀ w ∈ ws, f (.int w) = some (g w)) → mapO f (dints ws) = some (ws.map g)
  | [], _ => rfl
  | w :: ws, h => by
    rw [dints_cons, mapO_cons, h w (.head _), mapO_gen ws fun x hx => h x (.tail _ hx)]
    rfl

noncomputable def itm (ks : List Int) (ds : List D) : D := .lst ((ks.zip ds).map fun p => .tup [.int p.1, p.2])
theorem items_itm (ks : List Int) (ds : List D) (h : ks.length = ds.length) (h4 : ks.length ≤ 4096) : bi1 .items (.dic ks ds) = some (itm ks ds) := by
  exact if_pos ⟨h, h4⟩
theorem add_itm (ks : List Int) (ds : List D) (a : Int) (d : D) (h : ks.length = ds.length) (h4 : ks.length < 4096) : bin2 .add (itm ks ds) (.lst [.tup [.int a, d]]) = some (itm (ks ++ [a]) (ds ++ [d])) := by
  have : ((ks.zip ds).map fun p => D.tup [.int p.1, p.2]) ++ [.tup [.int a, d]] = ((ks ++ [a]).zip (ds ++ [d])).map fun p => D.tup [.int p.1, p.2] := by
    rw [List.zip_append h]; simp
  show mk (((ks.zip ds).map fun p => D.tup [.int p.1, p.2]) ++ [.tup [.int a, d]]) = _
  rw [this]
  refine if_pos ?_
  rw [List.length_map, List.length_zip, List.length_append, List.length_append]
  exact Nat.le_trans (Nat.min_le_left _ _) h4
theorem pairs_itm : ∀ (ks : List Int) (ds : List D), ks.length = ds.length → pairs ((ks.zip ds).map fun p => .tup [.int p.1, p.2]) = some (ks.zip ds)
  | [], [], _ => rfl
  | k :: ks, d :: ds, h => by
    show (pairs ((ks.zip ds).map fun p => .tup [.int p.1, p.2])).map ((k, d) :: ·) = _
    rw [pairs_itm ks ds (Nat.succ.inj h)]
    rfl
  | [], _ :: _, h => by simp at h
  | _ :: _, [], h => by simp at h
theorem dict_itm (ks : List Int) (ds : List D) (h : ks.length = ds.length) (hn : ks.Nodup) (h4 : ks.length ≤ 4096) : bi1 .dict (itm ks ds) = some (.dic ks ds) := by
  have e1 : (ks.zip ds).map (·.1) = ks := by rw [List.map_fst_zip]; lia
  have e2 : (ks.zip ds).map (·.2) = ds := by rw [List.map_snd_zip]; lia
  have e3 : (ks.zip ds).length ≤ lid := by simp [lid]; lia
  show ((pairs ((ks.zip ds).map fun p => D.tup [.int p.1, p.2])).bind fun kvs => if (decide (kvs.map (·.1)).Nodup && decide (kvs.length ≤ lid)) = true then some (D.dic (kvs.map (·.1)) (kvs.map (·.2))) else none) = _
  rw [pairs_itm ks ds h]
  show (if (decide ((ks.zip ds).map (·.1)).Nodup && decide ((ks.zip ds).length ≤ lid)) = true then some (D.dic ((ks.zip ds).map (·.1)) ((ks.zip ds).map (·.2))) else none) = _
  rw [e1, e2, decide_eq_true hn, decide_eq_true e3]
  rfl
theorem look_map {a : Int} {g : Int → D} : ∀ {L : List Int}, a ∈ L → look a L (L.map g) = some (g a)
  | x :: L, h => by
    by_cases e : x = a
    · rw [List.map_cons, look_cons, if_pos e, e]
    · have h' : a ∈ L := (List.mem_cons.mp h).resolve_left fun q => e q.symm
      rw [List.map_cons, look_cons, if_neg e, look_map h']


theorem law_mend_run (n : Nat) {ws ks : List Int} {ds : List D} {P : Int → Nat} (hl : ws.length ≤ 4096) (hp : ∀ w ∈ ws, w % 2 = 1 → look (w / 2) ks ds = some (.int (P (w / 2))) ∧ P (w / 2) < 1000) : Gt (n + 1) "_law_mend" [il ws, .dic ks ds] = some (.val (il (ws.map (mend P)))) := by
  rw [gt_run (b := b_law_mend) (vs := vs_law_mend) rfl rfl]
  have key := mapO_ints (f := elt (Gt n) (.ite (.cmp .eq (.bin .mod (.var 2) (.int 2)) (.int 1)) (.bin .add (.bin .mul (.int 2) (.idx (.var 1) (.bin .fdiv (.var 2) (.int 2)))) (.int 1)) (.var 2)) [some (.val (il ws)), some (.val (.dic ks ds))]) (g := mend P) ws (fun w hw => by
    by_cases h1 : w % 2 = 1
    · obtain ⟨h2, h3⟩ := hp w hw h1
      have h5 : P (w / 2) < 1000000 := by lia
      simp [elt, run_, rt_ret, rt_next, es_nil, es_cons, nx_next, nx_brk, nx_ret, ex_assign, setV_some, ex_assignO, setR_some, nxt_some, ex_take, tk_tup, tk2_own, ex_frz, fz_some, fv_some, ex_unpack, un_tup, puts_nil, puts_cons, ex_setidx, si_int, si2_some, ex_append, ap_some, ex_ite, br_some, ex_for1, f1_some, ex_for2, f2_some, ex_while, ex_ret, rv_some, ex_ret2, r2_some, ex_brk, ex_laid, ld_some, ld2_some, ld3_some, evI_range, rg_some, evI_seq, sq_some, seq_il, rng_int, evO_call, cO_some, evO_lst, evO_bin, evO_list, ow_some, own_il, own_lst, ev_non, ev_bool, ev_int, ev_str, ev_var, ev_bin, bo_some, ev_neg, ng_some, negD_int, ev_cmp, cb_some, bl_some, ev_ite, ei_some, ev_call, cl_some, rD_val, rD_own, rD_tup, ev_bi, bf_some, ev_idx, ix_none, ix_some, cp_vi, cpt_none, cpt_val, cpt_own, cpt_tup, cv_val, cv_own, cp_vv, cp_vb, cp_vc, cp_vx, cp_vn, cp_c, cp_x, cp_s, cp_b, cp_f, ev_slc, s3_some, ev_lst, mko_some, ev_tup, tpo_some, ev_dic0, ev_comp, cm_some, evs_nil, evs_cons, cn_some, et_cmp, co_some, et_not, nt_some, et_and, an_some, et_or, or_some, et_ex, tb_some, eb_var, eb_non, eb_bool, eb_int, eb_str, eb_bin, eb_neg, eb_cmp, eb_ite, eb_call, eb_bi, eb_idx, eb_slc, eb_lst, eb_tup, eb_dic0, eb_comp, rd_zero, rd_succ, put_zero, put_succ, asg_put, toV_val, toB_val, toB_own, ownOf_, toO_own, toD_val, toD_own, toD_tup, ctoD_val, ctoD_own, cds_nil, cds_cons, cs2_some, bin_add, bin_sub, bin_mul, bin_fdiv, bin_mod, bi_len, bi_list, idx_il, idx_tup, idx_dic, add_il, rep_il, mk_nil, mk_one, mk_int, mk_dints, lst_dints, lst_nil, slc_il, slc_il0, slc_il1, cmp_eq, cmp_ne, cmp_lt, cmp_le, cmp_gt, cmp_ge, cmp_in, cmp_notin, ok_int, ok_il, eqb_int, eqb_il, lid, sto0, h1, h2, mend, h5]
    · simp [elt, run_, rt_ret, rt_next, es_nil, es_cons, nx_next, nx_brk, nx_ret, ex_assign, setV_some, ex_assignO, setR_some, nxt_some, ex_take, tk_tup, tk2_own, ex_frz, fz_some, fv_some, ex_unpack, un_tup, puts_nil, puts_cons, ex_setidx, si_int, si2_some, ex_append, ap_some, ex_ite, br_some, ex_for1, f1_some, ex_for2, f2_some, ex_while, ex_ret, rv_some, ex_ret2, r2_some, ex_brk, ex_laid, ld_some, ld2_some, ld3_some, evI_range, rg_some, evI_seq, sq_some, seq_il, rng_int, evO_call, cO_some, evO_lst, evO_bin, evO_list, ow_some, own_il, own_lst, ev_non, ev_bool, ev_int, ev_str, ev_var, ev_bin, bo_some, ev_neg, ng_some, negD_int, ev_cmp, cb_some, bl_some, ev_ite, ei_some, ev_call, cl_some, rD_val, rD_own, rD_tup, ev_bi, bf_some, ev_idx, ix_none, ix_some, cp_vi, cpt_none, cpt_val, cpt_own, cpt_tup, cv_val, cv_own, cp_vv, cp_vb, cp_vc, cp_vx, cp_vn, cp_c, cp_x, cp_s, cp_b, cp_f, ev_slc, s3_some, ev_lst, mko_some, ev_tup, tpo_some, ev_dic0, ev_comp, cm_some, evs_nil, evs_cons, cn_some, et_cmp, co_some, et_not, nt_some, et_and, an_some, et_or, or_some, et_ex, tb_some, eb_var, eb_non, eb_bool, eb_int, eb_str, eb_bin, eb_neg, eb_cmp, eb_ite, eb_call, eb_bi, eb_idx, eb_slc, eb_lst, eb_tup, eb_dic0, eb_comp, rd_zero, rd_succ, put_zero, put_succ, asg_put, toV_val, toB_val, toB_own, ownOf_, toO_own, toD_val, toD_own, toD_tup, ctoD_val, ctoD_own, cds_nil, cds_cons, cs2_some, bin_add, bin_sub, bin_mul, bin_fdiv, bin_mod, bi_len, bi_list, idx_il, idx_tup, idx_dic, add_il, rep_il, mk_nil, mk_one, mk_int, mk_dints, lst_dints, lst_nil, slc_il, slc_il0, slc_il1, cmp_eq, cmp_ne, cmp_lt, cmp_le, cmp_gt, cmp_ge, cmp_in, cmp_notin, ok_int, ok_il, eqb_int, eqb_il, lid, sto0, h1, mend])
  simp [b_law_mend, vs_law_mend, run_, rt_ret, rt_next, es_nil, es_cons, nx_next, nx_brk, nx_ret, ex_assign, setV_some, ex_assignO, setR_some, nxt_some, ex_take, tk_tup, tk2_own, ex_frz, fz_some, fv_some, ex_unpack, un_tup, puts_nil, puts_cons, ex_setidx, si_int, si2_some, ex_append, ap_some, ex_ite, br_some, ex_for1, f1_some, ex_for2, f2_some, ex_while, ex_ret, rv_some, ex_ret2, r2_some, ex_brk, ex_laid, ld_some, ld2_some, ld3_some, evI_range, rg_some, evI_seq, sq_some, seq_il, rng_int, evO_call, cO_some, evO_lst, evO_bin, evO_list, ow_some, own_il, own_lst, ev_non, ev_bool, ev_int, ev_str, ev_var, ev_bin, bo_some, ev_neg, ng_some, negD_int, ev_cmp, cb_some, bl_some, ev_ite, ei_some, ev_call, cl_some, rD_val, rD_own, rD_tup, ev_bi, bf_some, ev_idx, ix_none, ix_some, cp_vi, cpt_none, cpt_val, cpt_own, cpt_tup, cv_val, cv_own, cp_vv, cp_vb, cp_vc, cp_vx, cp_vn, cp_c, cp_x, cp_s, cp_b, cp_f, ev_slc, s3_some, ev_lst, mko_some, ev_tup, tpo_some, ev_dic0, ev_comp, cm_some, evs_nil, evs_cons, cn_some, et_cmp, co_some, et_not, nt_some, et_and, an_some, et_or, or_some, et_ex, tb_some, eb_var, eb_non, eb_bool, eb_int, eb_str, eb_bin, eb_neg, eb_cmp, eb_ite, eb_call, eb_bi, eb_idx, eb_slc, eb_lst, eb_tup, eb_dic0, eb_comp, rd_zero, rd_succ, put_zero, put_succ, asg_put, toV_val, toB_val, toB_own, ownOf_, toO_own, toD_val, toD_own, toD_tup, ctoD_val, ctoD_own, cds_nil, cds_cons, cs2_some, bin_add, bin_sub, bin_mul, bin_fdiv, bin_mod, bi_len, bi_list, idx_il, idx_tup, idx_dic, add_il, rep_il, mk_nil, mk_one, mk_int, mk_dints, lst_dints, lst_nil, slc_il, slc_il0, slc_il1, cmp_eq, cmp_ne, cmp_lt, cmp_le, cmp_gt, cmp_ge, cmp_in, cmp_notin, ok_int, ok_il, eqb_int, eqb_il, lid, sto0, hl, key]

noncomputable def f0 : Int → List Int := fun _ => []
noncomputable def ix (r : List Int) (a : Int) : Nat := pl f0 r a
theorem live_f0 : ∀ l : List Int, live f0 l = l.length
  | [] => rfl
  | a :: l => by simp [live, live_f0 l, f0]; lia
theorem ix_lt {r : List Int} {a : Int} (h : a ∈ r) : ix r a < r.length := by
  have := pl_lt (f := f0) h
  rw [live_f0] at this
  unfold ix
  lia

theorem copy_due_run (n : Nat) {f : Int → List Int} {ks roots r : List Int} {ds : List D} {size : Nat} (hs : size < 1000) (hnd : r.Nodup) (hobj : ∀ a ∈ r, look a ks ds = some (il (f a))) (hsz : live f r ≤ size) (hrl : roots.length < 1000)
    (hcl : ∀ a ∈ r, ∀ w ∈ f a, w % 2 = 1 → w / 2 ∈ r) (hcr : ∀ w ∈ roots, w % 2 = 1 → w / 2 ∈ r) :
    Gt (n + 2) "_law_copy_due" [.dic ks ds, il r, il roots, .int size] = some (.val (.tup [il (cooked f (mend (pl f r)) r ++ tailz (live f r) size), il (roots.map (mend (pl f r)))])) := by
  rw [gt_run (b := b_law_copy_due) (vs := vs_law_copy_due) rfl rfl]
  have hrlen : r.length ≤ live f r := by
    have : ∀ l : List Int, l.length ≤ live f l := fun l => by
      induction l with
      | nil => simp
      | cons a l ih => simp [live]; lia
    exact this r
  have hfl : ∀ a ∈ r, (f a).length < 1000 := fun a ha => by have := pl_lt (f := f) ha; lia
  have hpl : ∀ a ∈ r, pl f r a < 1000 := fun a ha => by have := pl_lt (f := f) ha; lia
  have k1 : ∃ o, fo (asg 6) (execs (Gt (n + 1)) N0 100 l_law_copy_due_1) (dints r) [some (.val (.dic ks ds)), some (.val (il r)), some (.val (il roots)), some (.val (.int size)), some (.val (.dic [] [])), some (.val (.int 0)), none, none] = some o ∧ ∃ av, o = .next [some (.val (.dic ks ds)), some (.val (il r)), some (.val (il roots)), some (.val (.int size)), some (.val (.dic r (r.map fun a => .int (pl f r a)))), some (.val (.int (live f r))), av, none] := by
    refine fo_list (fun rem σ => ∃ (L T : List Int) (av : Option R), r = L ++ T ∧ rem = dints T ∧ σ = [some (.val (.dic ks ds)), some (.val (il r)), some (.val (il roots)), some (.val (.int size)), some (.val (.dic L (L.map fun a => .int (pl f r a)))), some (.val (.int (live f L))), av, none]) _ ?_ ?_ _ _ ⟨[], r, none, rfl, rfl, rfl⟩
    · rintro σ ⟨L, T, av, hr, hrem, rfl⟩
      have : T = [] := by cases T with | nil => rfl | cons _ _ => simp [dints] at hrem
      subst this
      rw [List.append_nil] at hr
      subst hr
      exact ⟨av, rfl⟩
    · rintro x rr σ ⟨L, T, av, hr, hrem, rfl⟩
      cases T with
      | nil => simp [dints] at hrem
      | cons a T =>
        rw [dints_cons] at hrem
        cases hrem
        have ha : a ∈ r := by rw [hr]; simp
        have hn2 : (L ++ [a]).Nodup := by rw [hr] at hnd; exact (List.append_assoc L [a] T ▸ (by simpa using hnd : (L ++ a :: T).Nodup) : ((L ++ [a]) ++ T).Nodup).sublist (List.sublist_append_left _ _)
        have hnl : a ∉ L := fun h => by
          have := List.nodup_append.mp hn2
          exact this.2.2 a h a (by simp) rfl
        have hpe : pl f r a = live f L := by rw [hr]; exact pl_end T hnl
        have hLl : L.length < 4096 := by have := congrArg List.length hr; simp at this; lia
        refine ⟨[some (.val (.dic ks ds)), some (.val (il r)), some (.val (il roots)), some (.val (.int size)), some (.val (.dic L (L.map fun a => .int (pl f r a)))), some (.val (.int (live f L))), some (.val (.int a)), none], .next [some (.val (.dic ks ds)), some (.val (il r)), some (.val (il roots)), some (.val (.int size)), some (.val (.dic (L ++ [a]) ((L ++ [a]).map fun a => .int (pl f r a)))), some (.val (.int (live f (L ++ [a])))), some (.val (.int a)), none], rfl, ?_, L ++ [a], T, _, by simp [hr], rfl, rfl⟩
        have i1 := items_itm L (L.map fun a => D.int (pl f r a)) (by simp) (by lia)
        have i2 := add_itm L (L.map fun a => D.int (pl f r a)) a (.int (live f L)) (by simp) hLl
        have i3 := dict_itm (L ++ [a]) (L.map (fun a => D.int (pl f r a)) ++ [.int (live f L)]) (by simp) hn2 (by simp; lia)
        have e1 : live f (L ++ [a]) = live f L + ((f a).length + 1) := by rw [live_app]; simp [live]
        have hf4 : (f a).length ≤ 4096 := by have := hfl a ha; lia
        simp [l_law_copy_due_1, run_, rt_ret, rt_next, es_nil, es_cons, nx_next, nx_brk, nx_ret, ex_assign, setV_some, ex_assignO, setR_some, nxt_some, ex_take, tk_tup, tk2_own, ex_frz, fz_some, fv_some, ex_unpack, un_tup, puts_nil, puts_cons, ex_setidx, si_int, si2_some, ex_append, ap_some, ex_ite, br_some, ex_for1, f1_some, ex_for2, f2_some, ex_while, ex_ret, rv_some, ex_ret2, r2_some, ex_brk, ex_laid, ld_some, ld2_some, ld3_some, evI_range, rg_some, evI_seq, sq_some, seq_il, rng_int, evO_call, cO_some, evO_lst, evO_bin, evO_list, ow_some, own_il, own_lst, ev_non, ev_bool, ev_int, ev_str, ev_var, ev_bin, bo_some, ev_neg, ng_some, negD_int, ev_cmp, cb_some, bl_some, ev_ite, ei_some, ev_call, cl_some, rD_val, rD_own, rD_tup, ev_bi, bf_some, ev_idx, ix_none, ix_some, cp_vi, cpt_none, cpt_val, cpt_own, cpt_tup, cv_val, cv_own, cp_vv, cp_vb, cp_vc, cp_vx, cp_vn, cp_c, cp_x, cp_s, cp_b, cp_f, ev_slc, s3_some, ev_lst, mko_some, ev_tup, tpo_some, ev_dic0, ev_comp, cm_some, evs_nil, evs_cons, cn_some, et_cmp, co_some, et_not, nt_some, et_and, an_some, et_or, or_some, et_ex, tb_some, eb_var, eb_non, eb_bool, eb_int, eb_str, eb_bin, eb_neg, eb_cmp, eb_ite, eb_call, eb_bi, eb_idx, eb_slc, eb_lst, eb_tup, eb_dic0, eb_comp, rd_zero, rd_succ, put_zero, put_succ, asg_put, toV_val, toB_val, toB_own, ownOf_, toO_own, toD_val, toD_own, toD_tup, ctoD_val, ctoD_own, cds_nil, cds_cons, cs2_some, bin_add, bin_sub, bin_mul, bin_fdiv, bin_mod, bi_len, bi_list, idx_il, idx_tup, idx_dic, add_il, rep_il, mk_nil, mk_one, mk_int, mk_dints, lst_dints, lst_nil, slc_il, slc_il0, slc_il1, cmp_eq, cmp_ne, cmp_lt, cmp_le, cmp_gt, cmp_ge, cmp_in, cmp_notin, ok_int, ok_il, eqb_int, eqb_il, lid, sto0, i1, i2, i3, hobj a ha, hf4, e1, hpe]
        lia
  obtain ⟨o, h1, av, rfl⟩ := k1
  have k2 : ∃ o, fo (asg 6) (execs (Gt (n + 1)) N0 100 l_law_copy_due_2) (dints r) [some (.val (.dic ks ds)), some (.val (il r)), some (.val (il roots)), some (.val (.int size)), some (.val (.dic r (r.map fun a => .int (pl f r a)))), some (.val (.int (live f r))), av, some (.val (il []))] = some o ∧ ∃ av, o = .next [some (.val (.dic ks ds)), some (.val (il r)), some (.val (il roots)), some (.val (.int size)), some (.val (.dic r (r.map fun a => .int (pl f r a)))), some (.val (.int (live f r))), av, some (.val (il (cooked f (mend (pl f r)) r)))] := by
    refine fo_list (fun rem σ => ∃ (L T : List Int) (av : Option R), r = L ++ T ∧ rem = dints T ∧ σ = [some (.val (.dic ks ds)), some (.val (il r)), some (.val (il roots)), some (.val (.int size)), some (.val (.dic r (r.map fun a => .int (pl f r a)))), some (.val (.int (live f r))), av, some (.val (il (cooked f (mend (pl f r)) L)))]) _ ?_ ?_ _ _ ⟨[], r, av, rfl, rfl, rfl⟩
    · rintro σ ⟨L, T, av, hr, hrem, rfl⟩
      have : T = [] := by cases T with | nil => rfl | cons _ _ => simp [dints] at hrem
      subst this
      rw [List.append_nil] at hr
      subst hr
      exact ⟨av, rfl⟩
    · rintro x rr σ ⟨L, T, av, hr, hrem, rfl⟩
      cases T with
      | nil => simp [dints] at hrem
      | cons a T =>
        rw [dints_cons] at hrem
        cases hrem
        have ha : a ∈ r := by rw [hr]; simp
        have hf4 : (f a).length ≤ 4096 := by have := hfl a ha; lia
        have hmd := law_mend_run n (ws := f a) (ks := r) (ds := r.map fun a => D.int (pl f r a)) (P := pl f r) hf4 (fun w hw h => ⟨look_map (g := fun a => D.int (pl f r a)) (hcl a ha w hw h), hpl _ (hcl a ha w hw h)⟩)
        have hc1 := cooked_len (f := f) (mend (pl f r)) L
        have hll : live f L + ((f a).length + 1) ≤ live f r := by rw [hr, live_app, live]; lia
        have l1 : (cooked f (mend (pl f r)) L).length + 1 ≤ 4096 := by lia
        have l2 : (cooked f (mend (pl f r)) L).length + 1 + (f a).length ≤ 4096 := by lia
        refine ⟨_, .next [some (.val (.dic ks ds)), some (.val (il r)), some (.val (il roots)), some (.val (.int size)), some (.val (.dic r (r.map fun a => .int (pl f r a)))), some (.val (.int (live f r))), some (.val (.int a)), some (.val (il (cooked f (mend (pl f r)) (L ++ [a]))))], rfl, ?_, L ++ [a], T, _, by simp [hr], rfl, rfl⟩
        simp [asg, l_law_copy_due_2, run_, rt_ret, rt_next, es_nil, es_cons, nx_next, nx_brk, nx_ret, ex_assign, setV_some, ex_assignO, setR_some, nxt_some, ex_take, tk_tup, tk2_own, ex_frz, fz_some, fv_some, ex_unpack, un_tup, puts_nil, puts_cons, ex_setidx, si_int, si2_some, ex_append, ap_some, ex_ite, br_some, ex_for1, f1_some, ex_for2, f2_some, ex_while, ex_ret, rv_some, ex_ret2, r2_some, ex_brk, ex_laid, ld_some, ld2_some, ld3_some, evI_range, rg_some, evI_seq, sq_some, seq_il, rng_int, evO_call, cO_some, evO_lst, evO_bin, evO_list, ow_some, own_il, own_lst, ev_non, ev_bool, ev_int, ev_str, ev_var, ev_bin, bo_some, ev_neg, ng_some, negD_int, ev_cmp, cb_some, bl_some, ev_ite, ei_some, ev_call, cl_some, rD_val, rD_own, rD_tup, ev_bi, bf_some, ev_idx, ix_none, ix_some, cp_vi, cpt_none, cpt_val, cpt_own, cpt_tup, cv_val, cv_own, cp_vv, cp_vb, cp_vc, cp_vx, cp_vn, cp_c, cp_x, cp_s, cp_b, cp_f, ev_slc, s3_some, ev_lst, mko_some, ev_tup, tpo_some, ev_dic0, ev_comp, cm_some, evs_nil, evs_cons, cn_some, et_cmp, co_some, et_not, nt_some, et_and, an_some, et_or, or_some, et_ex, tb_some, eb_var, eb_non, eb_bool, eb_int, eb_str, eb_bin, eb_neg, eb_cmp, eb_ite, eb_call, eb_bi, eb_idx, eb_slc, eb_lst, eb_tup, eb_dic0, eb_comp, rd_zero, rd_succ, put_zero, put_succ, asg_put, toV_val, toB_val, toB_own, ownOf_, toO_own, toD_val, toD_own, toD_tup, ctoD_val, ctoD_own, cds_nil, cds_cons, cs2_some, bin_add, bin_sub, bin_mul, bin_fdiv, bin_mod, bi_len, bi_list, idx_il, idx_tup, idx_dic, add_il, rep_il, mk_nil, mk_one, mk_int, mk_dints, lst_dints, lst_nil, slc_il, slc_il0, slc_il1, cmp_eq, cmp_ne, cmp_lt, cmp_le, cmp_gt, cmp_ge, cmp_in, cmp_notin, ok_int, ok_il, eqb_int, eqb_il, lid, sto0, hobj a ha, hf4, hmd, l1, l2, cooked_snoc]
  obtain ⟨o, h2, av, rfl⟩ := k2
  have hr4 : r.length ≤ 4096 := by lia
  have hmr := law_mend_run n (ws := roots) (ks := r) (ds := r.map fun a => D.int (pl f r a)) (P := pl f r) (by lia) (fun w hw h => ⟨look_map (g := fun a => D.int (pl f r a)) (hcr w hw h), hpl _ (hcr w hw h)⟩)
  have hc := cooked_len (f := f) (mend (pl f r)) r
  by_cases hlt : live f r < size
  · have l1 : (cooked f (mend (pl f r)) r).length + 1 ≤ 4096 := by lia
    have g1 : (0 : Int) ≤ (size : Int) - live f r - 1 ∧ (size : Int) - live f r - 1 ≤ 4096 := by lia
    have e1 : ((size : Int) - live f r - 1).toNat = size - live f r - 1 := by lia
    have l2 : (cooked f (mend (pl f r)) r).length + 1 + (size - live f r - 1) ≤ 4096 := by lia
    have g3 : (1 : Int) ≤ (size : Int) - live f r := by lia
    simp [b_law_copy_due, vs_law_copy_due, run_, rt_ret, rt_next, es_nil, es_cons, nx_next, nx_brk, nx_ret, ex_assign, setV_some, ex_assignO, setR_some, nxt_some, ex_take, tk_tup, tk2_own, ex_frz, fz_some, fv_some, ex_unpack, un_tup, puts_nil, puts_cons, ex_setidx, si_int, si2_some, ex_append, ap_some, ex_ite, br_some, ex_for1, f1_some, ex_for2, f2_some, ex_while, ex_ret, rv_some, ex_ret2, r2_some, ex_brk, ex_laid, ld_some, ld2_some, ld3_some, evI_range, rg_some, evI_seq, sq_some, seq_il, rng_int, evO_call, cO_some, evO_lst, evO_bin, evO_list, ow_some, own_il, own_lst, ev_non, ev_bool, ev_int, ev_str, ev_var, ev_bin, bo_some, ev_neg, ng_some, negD_int, ev_cmp, cb_some, bl_some, ev_ite, ei_some, ev_call, cl_some, rD_val, rD_own, rD_tup, ev_bi, bf_some, ev_idx, ix_none, ix_some, cp_vi, cpt_none, cpt_val, cpt_own, cpt_tup, cv_val, cv_own, cp_vv, cp_vb, cp_vc, cp_vx, cp_vn, cp_c, cp_x, cp_s, cp_b, cp_f, ev_slc, s3_some, ev_lst, mko_some, ev_tup, tpo_some, ev_dic0, ev_comp, cm_some, evs_nil, evs_cons, cn_some, et_cmp, co_some, et_not, nt_some, et_and, an_some, et_or, or_some, et_ex, tb_some, eb_var, eb_non, eb_bool, eb_int, eb_str, eb_bin, eb_neg, eb_cmp, eb_ite, eb_call, eb_bi, eb_idx, eb_slc, eb_lst, eb_tup, eb_dic0, eb_comp, rd_zero, rd_succ, put_zero, put_succ, asg_put, toV_val, toB_val, toB_own, ownOf_, toO_own, toD_val, toD_own, toD_tup, ctoD_val, ctoD_own, cds_nil, cds_cons, cs2_some, bin_add, bin_sub, bin_mul, bin_fdiv, bin_mod, bi_len, bi_list, idx_il, idx_tup, idx_dic, add_il, rep_il, mk_nil, mk_one, mk_int, mk_dints, lst_dints, lst_nil, slc_il, slc_il0, slc_il1, cmp_eq, cmp_ne, cmp_lt, cmp_le, cmp_gt, cmp_ge, cmp_in, cmp_notin, ok_int, ok_il, eqb_int, eqb_il, lid, sto0, h1, h2, hr4, hmr, hlt, l1, l2, g1, g3, e1, tailz]
  · simp [b_law_copy_due, vs_law_copy_due, run_, rt_ret, rt_next, es_nil, es_cons, nx_next, nx_brk, nx_ret, ex_assign, setV_some, ex_assignO, setR_some, nxt_some, ex_take, tk_tup, tk2_own, ex_frz, fz_some, fv_some, ex_unpack, un_tup, puts_nil, puts_cons, ex_setidx, si_int, si2_some, ex_append, ap_some, ex_ite, br_some, ex_for1, f1_some, ex_for2, f2_some, ex_while, ex_ret, rv_some, ex_ret2, r2_some, ex_brk, ex_laid, ld_some, ld2_some, ld3_some, evI_range, rg_some, evI_seq, sq_some, seq_il, rng_int, evO_call, cO_some, evO_lst, evO_bin, evO_list, ow_some, own_il, own_lst, ev_non, ev_bool, ev_int, ev_str, ev_var, ev_bin, bo_some, ev_neg, ng_some, negD_int, ev_cmp, cb_some, bl_some, ev_ite, ei_some, ev_call, cl_some, rD_val, rD_own, rD_tup, ev_bi, bf_some, ev_idx, ix_none, ix_some, cp_vi, cpt_none, cpt_val, cpt_own, cpt_tup, cv_val, cv_own, cp_vv, cp_vb, cp_vc, cp_vx, cp_vn, cp_c, cp_x, cp_s, cp_b, cp_f, ev_slc, s3_some, ev_lst, mko_some, ev_tup, tpo_some, ev_dic0, ev_comp, cm_some, evs_nil, evs_cons, cn_some, et_cmp, co_some, et_not, nt_some, et_and, an_some, et_or, or_some, et_ex, tb_some, eb_var, eb_non, eb_bool, eb_int, eb_str, eb_bin, eb_neg, eb_cmp, eb_ite, eb_call, eb_bi, eb_idx, eb_slc, eb_lst, eb_tup, eb_dic0, eb_comp, rd_zero, rd_succ, put_zero, put_succ, asg_put, toV_val, toB_val, toB_own, ownOf_, toO_own, toD_val, toD_own, toD_tup, ctoD_val, ctoD_own, cds_nil, cds_cons, cs2_some, bin_add, bin_sub, bin_mul, bin_fdiv, bin_mod, bi_len, bi_list, idx_il, idx_tup, idx_dic, add_il, rep_il, mk_nil, mk_one, mk_int, mk_dints, lst_dints, lst_nil, slc_il, slc_il0, slc_il1, cmp_eq, cmp_ne, cmp_lt, cmp_le, cmp_gt, cmp_ge, cmp_in, cmp_notin, ok_int, ok_il, eqb_int, eqb_il, lid, sto0, h1, h2, hr4, hmr, hlt, tailz]
end Mine

set_option maxRecDepth 10000
set_option linter.unusedSimpArgs false
set_option linter.unusedVariables false
namespace Mine
open PySem

theorem len_lst (xs : List D) : seqD (.lst xs) = if xs.length ≤ 4096 then some xs else none := rfl

theorem snoc_facts {r L T : List Int} {a : Int} (hnd : r.Nodup) (hr : r = L ++ a :: T) : (L ++ [a]).Nodup ∧ a ∉ L := by
  have h1 : (L ++ [a]).Nodup := by
    have : ((L ++ [a]) ++ T).Nodup := by rw [hr] at hnd; simpa using hnd
    exact this.sublist (List.sublist_append_left _ _)
  exact ⟨h1, fun h => (List.nodup_append.mp h1).2.2 a h a (by simp) rfl⟩

theorem shape_due_run (n : Nat) {f : Int → List Int} {ks roots r : List Int} {ds : List D} (hr1 : r.length < 999) (hnd : r.Nodup) (hobj : ∀ a ∈ r, look a ks ds = some (il (f a)) ∧ (f a).length < 1000) (hrl : roots.length < 1000)
    (hcl : ∀ a ∈ r, ∀ w ∈ f a, w % 2 = 1 → w / 2 ∈ r) (hcr : ∀ w ∈ roots, w % 2 = 1 → w / 2 ∈ r) :
    Gt (n + 2) "_law_shape_due" [.dic ks ds, il r, il roots] = some (.val (.tup [il (roots.map (mend (ix r))), .lst (r.map fun a => il ((f a).map (mend (ix r))))])) := by
  rw [gt_run (b := b_law_shape_due) (vs := vs_law_shape_due) rfl rfl]
  have k1 : ∃ o, fo (asg 4) (execs (Gt (n + 1)) N0 100 l_law_shape_due_1) (rngI 0 r.length) [some (.val (.dic ks ds)), some (.val (il r)), some (.val (il roots)), some (.val (.dic [] [])), none] = some o ∧ ∃ av, o = .next [some (.val (.dic ks ds)), some (.val (il r)), some (.val (il roots)), some (.val (.dic r (r.map fun a => .int (ix r a)))), av] := by
    refine fo_list (fun rem σ => ∃ (L T : List Int) (av : Option R), r = L ++ T ∧ rem = rngI L.length T.length ∧ σ = [some (.val (.dic ks ds)), some (.val (il r)), some (.val (il roots)), some (.val (.dic L (L.map fun a => .int (ix r a)))), av]) _ ?_ ?_ _ _ ⟨[], r, none, rfl, rfl, rfl⟩
    · rintro σ ⟨L, T, av, hr, hrem, rfl⟩
      have : T = [] := by cases T with | nil => rfl | cons _ _ => simp [rngI, List.range'_succ] at hrem
      subst this
      rw [List.append_nil] at hr
      subst hr
      exact ⟨av, rfl⟩
    · rintro x rr σ ⟨L, T, av, hr, hrem, rfl⟩
      cases T with
      | nil => simp [rngI] at hrem
      | cons a T =>
        rw [List.length_cons, rngI_succ] at hrem
        cases hrem
        obtain ⟨hn2, hnl⟩ := snoc_facts hnd hr
        have hpe : ix r a = L.length := by rw [ix, hr, pl_end T hnl, live_f0]
        have hLl : L.length < 1000 := by have := congrArg List.length hr; simp at this; lia
        have hL4 : (L.length : Int) < 4096 := by lia
        have hg : r[L.length]? = some a := by rw [hr]; simp
        refine ⟨_, .next [some (.val (.dic ks ds)), some (.val (il r)), some (.val (il roots)), some (.val (.dic (L ++ [a]) ((L ++ [a]).map fun a => .int (ix r a)))), some (.val (.int L.length))], rfl, ?_, L ++ [a], T, _, by simp [hr], by simp, rfl⟩
        have i1 := items_itm L (L.map fun a => D.int (ix r a)) (by simp) (by lia)
        have i2 := add_itm L (L.map fun a => D.int (ix r a)) a (.int L.length) (by simp) (by lia)
        have i3 := dict_itm (L ++ [a]) (L.map (fun a => D.int (ix r a)) ++ [.int L.length]) (by simp) hn2 (by simp; lia)
        simp [asg, l_law_shape_due_1, run_, rt_ret, rt_next, es_nil, es_cons, nx_next, nx_brk, nx_ret, ex_assign, setV_some, ex_assignO, setR_some, nxt_some, ex_take, tk_tup, tk2_own, ex_frz, fz_some, fv_some, ex_unpack, un_tup, puts_nil, puts_cons, ex_setidx, si_int, si2_some, ex_append, ap_some, ex_ite, br_some, ex_for1, f1_some, ex_for2, f2_some, ex_while, ex_ret, rv_some, ex_ret2, r2_some, ex_brk, ex_laid, ld_some, ld2_some, ld3_some, evI_range, rg_some, evI_seq, sq_some, seq_il, rng_int, evO_call, cO_some, evO_lst, evO_bin, evO_list, ow_some, own_il, own_lst, ev_non, ev_bool, ev_int, ev_str, ev_var, ev_bin, bo_some, ev_neg, ng_some, negD_int, ev_cmp, cb_some, bl_some, ev_ite, ei_some, ev_call, cl_some, rD_val, rD_own, rD_tup, ev_bi, bf_some, ev_idx, ix_none, ix_some, cp_vi, cpt_none, cpt_val, cpt_own, cpt_tup, cv_val, cv_own, cp_vv, cp_vb, cp_vc, cp_vx, cp_vn, cp_c, cp_x, cp_s, cp_b, cp_f, ev_slc, s3_some, ev_lst, mko_some, ev_tup, tpo_some, ev_dic0, ev_comp, cm_some, evs_nil, evs_cons, cn_some, et_cmp, co_some, et_not, nt_some, et_and, an_some, et_or, or_some, et_ex, tb_some, eb_var, eb_non, eb_bool, eb_int, eb_str, eb_bin, eb_neg, eb_cmp, eb_ite, eb_call, eb_bi, eb_idx, eb_slc, eb_lst, eb_tup, eb_dic0, eb_comp, rd_zero, rd_succ, put_zero, put_succ, asg_put, toV_val, toB_val, toB_own, ownOf_, toO_own, toD_val, toD_own, toD_tup, ctoD_val, ctoD_own, cds_nil, cds_cons, cs2_some, bin_add, bin_sub, bin_mul, bin_fdiv, bin_mod, bi_len, bi_list, idx_il, idx_tup, idx_dic, add_il, rep_il, mk_nil, mk_one, mk_int, mk_dints, lst_dints, lst_nil, slc_il, slc_il0, slc_il1, cmp_eq, cmp_ne, cmp_lt, cmp_le, cmp_gt, cmp_ge, cmp_in, cmp_notin, ok_int, ok_il, eqb_int, eqb_il, lid, sto0, i1, i2, i3, hg, hL4, hpe]
  obtain ⟨o, h1, av, rfl⟩ := k1
  have hr4 : r.length ≤ 4096 := by lia
  have hixl : ∀ a ∈ r, ix r a < 1000 := fun a ha => by have := ix_lt ha; lia
  have hmr := law_mend_run n (ws := roots) (ks := r) (ds := r.map fun a => D.int (ix r a)) (P := ix r) (by lia) (fun w hw h => ⟨look_map (g := fun a => D.int (ix r a)) (hcr w hw h), hixl _ (hcr w hw h)⟩)
  have key := mapO_gen (f := elt (Gt (n + 1)) (.call "_law_mend" (.cons (.idx (.var 0) (.var 5)) (.cons (.var 3) .nil))) [some (.val (.dic ks ds)), some (.val (il r)), some (.val (il roots)), some (.val (.dic r (r.map fun a => .int (ix r a)))), av]) (g := fun a => il ((f a).map (mend (ix r)))) r (fun a ha => by
    have hmd := law_mend_run n (ws := f a) (ks := r) (ds := r.map fun a => D.int (ix r a)) (P := ix r) (by have := (hobj a ha).2; lia) (fun w hw h => ⟨look_map (g := fun a => D.int (ix r a)) (hcl a ha w hw h), hixl _ (hcl a ha w hw h)⟩)
    simp [elt, run_, rt_ret, rt_next, es_nil, es_cons, nx_next, nx_brk, nx_ret, ex_assign, setV_some, ex_assignO, setR_some, nxt_some, ex_take, tk_tup, tk2_own, ex_frz, fz_some, fv_some, ex_unpack, un_tup, puts_nil, puts_cons, ex_setidx, si_int, si2_some, ex_append, ap_some, ex_ite, br_some, ex_for1, f1_some, ex_for2, f2_some, ex_while, ex_ret, rv_some, ex_ret2, r2_some, ex_brk, ex_laid, ld_some, ld2_some, ld3_some, evI_range, rg_some, evI_seq, sq_some, seq_il, rng_int, evO_call, cO_some, evO_lst, evO_bin, evO_list, ow_some, own_il, own_lst, ev_non, ev_bool, ev_int, ev_str, ev_var, ev_bin, bo_some, ev_neg, ng_some, negD_int, ev_cmp, cb_some, bl_some, ev_ite, ei_some, ev_call, cl_some, rD_val, rD_own, rD_tup, ev_bi, bf_some, ev_idx, ix_none, ix_some, cp_vi, cpt_none, cpt_val, cpt_own, cpt_tup, cv_val, cv_own, cp_vv, cp_vb, cp_vc, cp_vx, cp_vn, cp_c, cp_x, cp_s, cp_b, cp_f, ev_slc, s3_some, ev_lst, mko_some, ev_tup, tpo_some, ev_dic0, ev_comp, cm_some, evs_nil, evs_cons, cn_some, et_cmp, co_some, et_not, nt_some, et_and, an_some, et_or, or_some, et_ex, tb_some, eb_var, eb_non, eb_bool, eb_int, eb_str, eb_bin, eb_neg, eb_cmp, eb_ite, eb_call, eb_bi, eb_idx, eb_slc, eb_lst, eb_tup, eb_dic0, eb_comp, rd_zero, rd_succ, put_zero, put_succ, asg_put, toV_val, toB_val, toB_own, ownOf_, toO_own, toD_val, toD_own, toD_tup, ctoD_val, ctoD_own, cds_nil, cds_cons, cs2_some, bin_add, bin_sub, bin_mul, bin_fdiv, bin_mod, bi_len, bi_list, idx_il, idx_tup, idx_dic, add_il, rep_il, mk_nil, mk_one, mk_int, mk_dints, lst_dints, lst_nil, slc_il, slc_il0, slc_il1, cmp_eq, cmp_ne, cmp_lt, cmp_le, cmp_gt, cmp_ge, cmp_in, cmp_notin, ok_int, ok_il, eqb_int, eqb_il, lid, sto0, (hobj a ha).1, hmd])
  have hrg := rangeD_nat r.length hr4
  simp [b_law_shape_due, vs_law_shape_due, run_, rt_ret, rt_next, es_nil, es_cons, nx_next, nx_brk, nx_ret, ex_assign, setV_some, ex_assignO, setR_some, nxt_some, ex_take, tk_tup, tk2_own, ex_frz, fz_some, fv_some, ex_unpack, un_tup, puts_nil, puts_cons, ex_setidx, si_int, si2_some, ex_append, ap_some, ex_ite, br_some, ex_for1, f1_some, ex_for2, f2_some, ex_while, ex_ret, rv_some, ex_ret2, r2_some, ex_brk, ex_laid, ld_some, ld2_some, ld3_some, evI_range, rg_some, evI_seq, sq_some, seq_il, rng_int, evO_call, cO_some, evO_lst, evO_bin, evO_list, ow_some, own_il, own_lst, ev_non, ev_bool, ev_int, ev_str, ev_var, ev_bin, bo_some, ev_neg, ng_some, negD_int, ev_cmp, cb_some, bl_some, ev_ite, ei_some, ev_call, cl_some, rD_val, rD_own, rD_tup, ev_bi, bf_some, ev_idx, ix_none, ix_some, cp_vi, cpt_none, cpt_val, cpt_own, cpt_tup, cv_val, cv_own, cp_vv, cp_vb, cp_vc, cp_vx, cp_vn, cp_c, cp_x, cp_s, cp_b, cp_f, ev_slc, s3_some, ev_lst, mko_some, ev_tup, tpo_some, ev_dic0, ev_comp, cm_some, evs_nil, evs_cons, cn_some, et_cmp, co_some, et_not, nt_some, et_and, an_some, et_or, or_some, et_ex, tb_some, eb_var, eb_non, eb_bool, eb_int, eb_str, eb_bin, eb_neg, eb_cmp, eb_ite, eb_call, eb_bi, eb_idx, eb_slc, eb_lst, eb_tup, eb_dic0, eb_comp, rd_zero, rd_succ, put_zero, put_succ, asg_put, toV_val, toB_val, toB_own, ownOf_, toO_own, toD_val, toD_own, toD_tup, ctoD_val, ctoD_own, cds_nil, cds_cons, cs2_some, bin_add, bin_sub, bin_mul, bin_fdiv, bin_mod, bi_len, bi_list, idx_il, idx_tup, idx_dic, add_il, rep_il, mk_nil, mk_one, mk_int, mk_dints, lst_dints, lst_nil, slc_il, slc_il0, slc_il1, cmp_eq, cmp_ne, cmp_lt, cmp_le, cmp_gt, cmp_ge, cmp_in, cmp_notin, ok_int, ok_il, eqb_int, eqb_il, lid, sto0, hr4, hrg, h1, hmr, key, mk]

theorem fw0_set {size : Nat} {L : List Int} {a : Int} (h0 : 0 ≤ a) (h : a.toNat < size) (hn : a ∉ L) : (fw f0 size L).set a.toNat (L.length : Int) = fw f0 size (L ++ [a]) := by
  have := fw_set (f := f0) h0 h hn
  rwa [live_f0] at this

theorem shape_elt (n : Nat) {r : List Int} {size : Nat} {w : Int} {σ : Sto} {e1 e2 e3 e4 e5 e6 e7 : Option R} (hs : size < 1000) (hr1 : r.length < 999) (hw : w % 2 = 1 → w / 2 ∈ r ∧ 0 ≤ w / 2 ∧ (w / 2).toNat < size) :
    elt (Gt (n + 1)) (.ite (.ex (.call "is_pointer" (.cons (.var 8) .nil))) (.call "pointer_to" (.cons (.idx (.var 3) (.call "address_of" (.cons (.var 8) .nil))) .nil)) (.var 8)) [e1, e2, e3, some (.own (dints (fw f0 size r))), e4, e5, e6, e7] (.int w) = some (.int (mend (ix r) w)) := by
  by_cases h1 : w % 2 = 1
  · obtain ⟨h2, h3, h4⟩ := hw h1
    have hg := fw_get (f := f0) (met := r) h3 h4
    rw [if_pos h2] at hg
    have h5 : w / 2 < 4096 := by lia
    have hx := ix_lt h2
    have hpt := pointer_to_run n (ix r (w / 2) : Int) (by lia)
    unfold ix at hpt
    simp [elt, run_, rt_ret, rt_next, es_nil, es_cons, nx_next, nx_brk, nx_ret, ex_assign, setV_some, ex_assignO, setR_some, nxt_some, ex_take, tk_tup, tk2_own, ex_frz, fz_some, fv_some, ex_unpack, un_tup, puts_nil, puts_cons, ex_setidx, si_int, si2_some, ex_append, ap_some, ex_ite, br_some, ex_for1, f1_some, ex_for2, f2_some, ex_while, ex_ret, rv_some, ex_ret2, r2_some, ex_brk, ex_laid, ld_some, ld2_some, ld3_some, evI_range, rg_some, evI_seq, sq_some, seq_il, rng_int, evO_call, cO_some, evO_lst, evO_bin, evO_list, ow_some, own_il, own_lst, ev_non, ev_bool, ev_int, ev_str, ev_var, ev_bin, bo_some, ev_neg, ng_some, negD_int, ev_cmp, cb_some, bl_some, ev_ite, ei_some, ev_call, cl_some, rD_val, rD_own, rD_tup, ev_bi, bf_some, ev_idx, ix_none, ix_some, cp_vi, cpt_none, cpt_val, cpt_own, cpt_tup, cv_val, cv_own, cp_vv, cp_vb, cp_vc, cp_vx, cp_vn, cp_c, cp_x, cp_s, cp_b, cp_f, ev_slc, s3_some, ev_lst, mko_some, ev_tup, tpo_some, ev_dic0, ev_comp, cm_some, evs_nil, evs_cons, cn_some, et_cmp, co_some, et_not, nt_some, et_and, an_some, et_or, or_some, et_ex, tb_some, eb_var, eb_non, eb_bool, eb_int, eb_str, eb_bin, eb_neg, eb_cmp, eb_ite, eb_call, eb_bi, eb_idx, eb_slc, eb_lst, eb_tup, eb_dic0, eb_comp, rd_zero, rd_succ, put_zero, put_succ, asg_put, toV_val, toB_val, toB_own, ownOf_, toO_own, toD_val, toD_own, toD_tup, ctoD_val, ctoD_own, cds_nil, cds_cons, cs2_some, bin_add, bin_sub, bin_mul, bin_fdiv, bin_mod, bi_len, bi_list, idx_il, idx_tup, idx_dic, add_il, rep_il, mk_nil, mk_one, mk_int, mk_dints, lst_dints, lst_nil, slc_il, slc_il0, slc_il1, cmp_eq, cmp_ne, cmp_lt, cmp_le, cmp_gt, cmp_ge, cmp_in, cmp_notin, ok_int, ok_il, eqb_int, eqb_il, lid, sto0, is_pointer_run, address_of_run, h1, h3, h5, hg, hpt, mend, ix]
  · simp [elt, run_, rt_ret, rt_next, es_nil, es_cons, nx_next, nx_brk, nx_ret, ex_assign, setV_some, ex_assignO, setR_some, nxt_some, ex_take, tk_tup, tk2_own, ex_frz, fz_some, fv_some, ex_unpack, un_tup, puts_nil, puts_cons, ex_setidx, si_int, si2_some, ex_append, ap_some, ex_ite, br_some, ex_for1, f1_some, ex_for2, f2_some, ex_while, ex_ret, rv_some, ex_ret2, r2_some, ex_brk, ex_laid, ld_some, ld2_some, ld3_some, evI_range, rg_some, evI_seq, sq_some, seq_il, rng_int, evO_call, cO_some, evO_lst, evO_bin, evO_list, ow_some, own_il, own_lst, ev_non, ev_bool, ev_int, ev_str, ev_var, ev_bin, bo_some, ev_neg, ng_some, negD_int, ev_cmp, cb_some, bl_some, ev_ite, ei_some, ev_call, cl_some, rD_val, rD_own, rD_tup, ev_bi, bf_some, ev_idx, ix_none, ix_some, cp_vi, cpt_none, cpt_val, cpt_own, cpt_tup, cv_val, cv_own, cp_vv, cp_vb, cp_vc, cp_vx, cp_vn, cp_c, cp_x, cp_s, cp_b, cp_f, ev_slc, s3_some, ev_lst, mko_some, ev_tup, tpo_some, ev_dic0, ev_comp, cm_some, evs_nil, evs_cons, cn_some, et_cmp, co_some, et_not, nt_some, et_and, an_some, et_or, or_some, et_ex, tb_some, eb_var, eb_non, eb_bool, eb_int, eb_str, eb_bin, eb_neg, eb_cmp, eb_ite, eb_call, eb_bi, eb_idx, eb_slc, eb_lst, eb_tup, eb_dic0, eb_comp, rd_zero, rd_succ, put_zero, put_succ, asg_put, toV_val, toB_val, toB_own, ownOf_, toO_own, toD_val, toD_own, toD_tup, ctoD_val, ctoD_own, cds_nil, cds_cons, cs2_some, bin_add, bin_sub, bin_mul, bin_fdiv, bin_mod, bi_len, bi_list, idx_il, idx_tup, idx_dic, add_il, rep_il, mk_nil, mk_one, mk_int, mk_dints, lst_dints, lst_nil, slc_il, slc_il0, slc_il1, cmp_eq, cmp_ne, cmp_lt, cmp_le, cmp_gt, cmp_ge, cmp_in, cmp_notin, ok_int, ok_il, eqb_int, eqb_il, lid, sto0, is_pointer_run, h1, mend]

theorem shape_run (n : Nat) {f : Int → List Int} {mem roots r : List Int} {k : Nat} (hm : mem.length < 1000) (hrl : roots.length < 1000) (g : Go f k [] roots r) (hk : k < 99) (hr1 : r.length < 99) (hobj : ∀ a ∈ r, ObjAt mem a (f a)) :
    Gt (n + 3) "shape_of" [il mem, il roots] = some (.val (.tup [il (roots.map (mend (ix r))), .lst (r.map fun a => il ((f a).map (mend (ix r))))])) := by
  rw [gt_run (b := b_shape_of) (vs := vs_shape_of) rfl rfl]
  have hnd := g.nodup List.nodup_nil
  have hcr := g.closed.1
  have hcl : ∀ a ∈ r, ∀ w ∈ f a, w % 2 = 1 → w / 2 ∈ r := fun a ha => g.closed.2 a ha (by simp)
  have hal : ∀ a ∈ r, 0 ≤ a ∧ a.toNat < mem.length ∧ (f a).length < 1000 := fun a ha => by
    obtain ⟨pre, post, h1, h2⟩ := hobj a ha
    have := congrArg List.length h1
    simp at this
    lia
  have hre := reachable_run n (mem := il mem) g hk hr1 (fun a ha => ⟨(hobj a ha).fields n (by lia), (hal a ha).2.2⟩)
  have k1 : ∃ o, fo (asg 4) (execs (Gt (n + 2)) N0 100 l_shape_of_1) (rngI 0 r.length) [some (.val (il mem)), some (.val (il roots)), some (.val (il r)), some (.own (dints (List.replicate mem.length (-1)))), none, none, none, none] = some o ∧ ∃ av, o = .next [some (.val (il mem)), some (.val (il roots)), some (.val (il r)), some (.own (dints (fw f0 mem.length r))), av, none, none, none] := by
    refine fo_list (fun rem σ => ∃ (L T : List Int) (av : Option R), r = L ++ T ∧ rem = rngI L.length T.length ∧ σ = [some (.val (il mem)), some (.val (il roots)), some (.val (il r)), some (.own (dints (fw f0 mem.length L))), av, none, none, none]) _ ?_ ?_ _ _ ⟨[], r, none, rfl, rfl, by simp [fw, dints, List.map_const']⟩
    · rintro σ ⟨L, T, av, hr, hrem, rfl⟩
      have : T = [] := by cases T with | nil => rfl | cons _ _ => simp [rngI, List.range'_succ] at hrem
      subst this
      rw [List.append_nil] at hr
      subst hr
      exact ⟨av, rfl⟩
    · rintro x rr σ ⟨L, T, av, hr, hrem, rfl⟩
      cases T with
      | nil => simp [rngI] at hrem
      | cons a T =>
        rw [List.length_cons, rngI_succ] at hrem
        cases hrem
        obtain ⟨hn2, hnl⟩ := snoc_facts hnd hr
        have hLl : L.length < 1000 := by have := congrArg List.length hr; simp at this; lia
        have hL4 : (L.length : Int) < 4096 := by lia
        have hg : r[L.length]? = some a := by rw [hr]; simp
        obtain ⟨ha0, hal1, _⟩ := hal a (by rw [hr]; simp)
        have hst := fw0_set ha0 hal1 hnl
        have hai : a < (mem.length : Int) := by lia
        have hm4 : mem.length ≤ 4096 := by lia
        refine ⟨_, .next [some (.val (il mem)), some (.val (il roots)), some (.val (il r)), some (.own (dints (fw f0 mem.length (L ++ [a])))), some (.val (.int L.length)), none, none, none], rfl, ?_, L ++ [a], T, _, by simp [hr], by simp, rfl⟩
        simp [asg, l_shape_of_1, run_, rt_ret, rt_next, es_nil, es_cons, nx_next, nx_brk, nx_ret, ex_assign, setV_some, ex_assignO, setR_some, nxt_some, ex_take, tk_tup, tk2_own, ex_frz, fz_some, fv_some, ex_unpack, un_tup, puts_nil, puts_cons, ex_setidx, si_int, si2_some, ex_append, ap_some, ex_ite, br_some, ex_for1, f1_some, ex_for2, f2_some, ex_while, ex_ret, rv_some, ex_ret2, r2_some, ex_brk, ex_laid, ld_some, ld2_some, ld3_some, evI_range, rg_some, evI_seq, sq_some, seq_il, rng_int, evO_call, cO_some, evO_lst, evO_bin, evO_list, ow_some, own_il, own_lst, ev_non, ev_bool, ev_int, ev_str, ev_var, ev_bin, bo_some, ev_neg, ng_some, negD_int, ev_cmp, cb_some, bl_some, ev_ite, ei_some, ev_call, cl_some, rD_val, rD_own, rD_tup, ev_bi, bf_some, ev_idx, ix_none, ix_some, cp_vi, cpt_none, cpt_val, cpt_own, cpt_tup, cv_val, cv_own, cp_vv, cp_vb, cp_vc, cp_vx, cp_vn, cp_c, cp_x, cp_s, cp_b, cp_f, ev_slc, s3_some, ev_lst, mko_some, ev_tup, tpo_some, ev_dic0, ev_comp, cm_some, evs_nil, evs_cons, cn_some, et_cmp, co_some, et_not, nt_some, et_and, an_some, et_or, or_some, et_ex, tb_some, eb_var, eb_non, eb_bool, eb_int, eb_str, eb_bin, eb_neg, eb_cmp, eb_ite, eb_call, eb_bi, eb_idx, eb_slc, eb_lst, eb_tup, eb_dic0, eb_comp, rd_zero, rd_succ, put_zero, put_succ, asg_put, toV_val, toB_val, toB_own, ownOf_, toO_own, toD_val, toD_own, toD_tup, ctoD_val, ctoD_own, cds_nil, cds_cons, cs2_some, bin_add, bin_sub, bin_mul, bin_fdiv, bin_mod, bi_len, bi_list, idx_il, idx_tup, idx_dic, add_il, rep_il, mk_nil, mk_one, mk_int, mk_dints, lst_dints, lst_nil, slc_il, slc_il0, slc_il1, cmp_eq, cmp_ne, cmp_lt, cmp_le, cmp_gt, cmp_ge, cmp_in, cmp_notin, ok_int, ok_il, eqb_int, eqb_il, lid, sto0, hg, hL4, ha0, dints_len, fw_len, hai, hm4, dints_set, hst]
  obtain ⟨o, h1, av, rfl⟩ := k1
  have kr := mapO_ints (f := elt (Gt (n + 2)) (.ite (.ex (.call "is_pointer" (.cons (.var 8) .nil))) (.call "pointer_to" (.cons (.idx (.var 3) (.call "address_of" (.cons (.var 8) .nil))) .nil)) (.var 8)) [some (.val (il mem)), some (.val (il roots)), some (.val (il r)), some (.own (dints (fw f0 mem.length r))), av, none, none, none]) (g := mend (ix r)) roots (fun w hw => shape_elt (n + 1) (σ := []) hm (by lia) fun h => ⟨hcr w hw h, (hal _ (hcr w hw h)).1, (hal _ (hcr w hw h)).2.1⟩)
  have k2 : ∃ o, fo (asg 7) (execs (Gt (n + 2)) N0 100 l_shape_of_2) (dints r) [some (.val (il mem)), some (.val (il roots)), some (.val (il r)), some (.own (dints (fw f0 mem.length r))), av, some (.val (il (roots.map (mend (ix r))))), some (.own []), none] = some o ∧ ∃ av', o = .next [some (.val (il mem)), some (.val (il roots)), some (.val (il r)), some (.own (dints (fw f0 mem.length r))), av, some (.val (il (roots.map (mend (ix r))))), some (.own (r.map fun a => il ((f a).map (mend (ix r))))), av'] := by
    refine fo_list (fun rem σ => ∃ (L T : List Int) (av' : Option R), r = L ++ T ∧ rem = dints T ∧ σ = [some (.val (il mem)), some (.val (il roots)), some (.val (il r)), some (.own (dints (fw f0 mem.length r))), av, some (.val (il (roots.map (mend (ix r))))), some (.own (L.map fun a => il ((f a).map (mend (ix r))))), av']) _ ?_ ?_ _ _ ⟨[], r, none, rfl, rfl, rfl⟩
    · rintro σ ⟨L, T, av', hr, hrem, rfl⟩
      have : T = [] := by cases T with | nil => rfl | cons _ _ => simp [dints] at hrem
      subst this
      rw [List.append_nil] at hr
      subst hr
      exact ⟨av', rfl⟩
    · rintro x rr σ ⟨L, T, av', hr, hrem, rfl⟩
      cases T with
      | nil => simp [dints] at hrem
      | cons a T =>
        rw [dints_cons] at hrem
        cases hrem
        have ha : a ∈ r := by rw [hr]; simp
        have hLl : L.length < 4096 := by have := congrArg List.length hr; simp at this; lia
        have hfa := (hobj a ha).fields (n + 1) (by lia)
        have hf4 : (f a).length ≤ 4096 := by have := (hal a ha).2.2; lia
        have ka := mapO_ints (f := elt (Gt (n + 2)) (.ite (.ex (.call "is_pointer" (.cons (.var 8) .nil))) (.call "pointer_to" (.cons (.idx (.var 3) (.call "address_of" (.cons (.var 8) .nil))) .nil)) (.var 8)) [some (.val (il mem)), some (.val (il roots)), some (.val (il r)), some (.own (dints (fw f0 mem.length r))), av, some (.val (il (roots.map (mend (ix r))))), some (.own (L.map fun a => il ((f a).map (mend (ix r))))), some (.val (.int a))]) (g := mend (ix r)) (f a) (fun w hw => shape_elt (n + 1) (σ := []) hm (by lia) fun h => ⟨hcl a ha w hw h, (hal _ (hcl a ha w hw h)).1, (hal _ (hcl a ha w hw h)).2.1⟩)
        refine ⟨_, .next [some (.val (il mem)), some (.val (il roots)), some (.val (il r)), some (.own (dints (fw f0 mem.length r))), av, some (.val (il (roots.map (mend (ix r))))), some (.own ((L ++ [a]).map fun a => il ((f a).map (mend (ix r))))), some (.val (.int a))], rfl, ?_, L ++ [a], T, _, by simp [hr], rfl, rfl⟩
        simp [asg, l_shape_of_2, run_, rt_ret, rt_next, es_nil, es_cons, nx_next, nx_brk, nx_ret, ex_assign, setV_some, ex_assignO, setR_some, nxt_some, ex_take, tk_tup, tk2_own, ex_frz, fz_some, fv_some, ex_unpack, un_tup, puts_nil, puts_cons, ex_setidx, si_int, si2_some, ex_append, ap_some, ex_ite, br_some, ex_for1, f1_some, ex_for2, f2_some, ex_while, ex_ret, rv_some, ex_ret2, r2_some, ex_brk, ex_laid, ld_some, ld2_some, ld3_some, evI_range, rg_some, evI_seq, sq_some, seq_il, rng_int, evO_call, cO_some, evO_lst, evO_bin, evO_list, ow_some, own_il, own_lst, ev_non, ev_bool, ev_int, ev_str, ev_var, ev_bin, bo_some, ev_neg, ng_some, negD_int, ev_cmp, cb_some, bl_some, ev_ite, ei_some, ev_call, cl_some, rD_val, rD_own, rD_tup, ev_bi, bf_some, ev_idx, ix_none, ix_some, cp_vi, cpt_none, cpt_val, cpt_own, cpt_tup, cv_val, cv_own, cp_vv, cp_vb, cp_vc, cp_vx, cp_vn, cp_c, cp_x, cp_s, cp_b, cp_f, ev_slc, s3_some, ev_lst, mko_some, ev_tup, tpo_some, ev_dic0, ev_comp, cm_some, evs_nil, evs_cons, cn_some, et_cmp, co_some, et_not, nt_some, et_and, an_some, et_or, or_some, et_ex, tb_some, eb_var, eb_non, eb_bool, eb_int, eb_str, eb_bin, eb_neg, eb_cmp, eb_ite, eb_call, eb_bi, eb_idx, eb_slc, eb_lst, eb_tup, eb_dic0, eb_comp, rd_zero, rd_succ, put_zero, put_succ, asg_put, toV_val, toB_val, toB_own, ownOf_, toO_own, toD_val, toD_own, toD_tup, ctoD_val, ctoD_own, cds_nil, cds_cons, cs2_some, bin_add, bin_sub, bin_mul, bin_fdiv, bin_mod, bi_len, bi_list, idx_il, idx_tup, idx_dic, add_il, rep_il, mk_nil, mk_one, mk_int, mk_dints, lst_dints, lst_nil, slc_il, slc_il0, slc_il1, cmp_eq, cmp_ne, cmp_lt, cmp_le, cmp_gt, cmp_ge, cmp_in, cmp_notin, ok_int, ok_il, eqb_int, eqb_il, lid, sto0, hfa, hf4, ka, hLl]
  obtain ⟨o, h2, av', rfl⟩ := k2
  have hr4 : r.length ≤ 4096 := by lia
  have hrg := rangeD_nat r.length hr4
  have hm4 : mem.length ≤ 4096 := by lia
  have hmi : (mem.length : Int) ≤ 4096 := by lia
  have hl4 : roots.length ≤ 4096 := by lia
  simp [b_shape_of, vs_shape_of, run_, rt_ret, rt_next, es_nil, es_cons, nx_next, nx_brk, nx_ret, ex_assign, setV_some, ex_assignO, setR_some, nxt_some, ex_take, tk_tup, tk2_own, ex_frz, fz_some, fv_some, ex_unpack, un_tup, puts_nil, puts_cons, ex_setidx, si_int, si2_some, ex_append, ap_some, ex_ite, br_some, ex_for1, f1_some, ex_for2, f2_some, ex_while, ex_ret, rv_some, ex_ret2, r2_some, ex_brk, ex_laid, ld_some, ld2_some, ld3_some, evI_range, rg_some, evI_seq, sq_some, seq_il, rng_int, evO_call, cO_some, evO_lst, evO_bin, evO_list, ow_some, own_il, own_lst, ev_non, ev_bool, ev_int, ev_str, ev_var, ev_bin, bo_some, ev_neg, ng_some, negD_int, ev_cmp, cb_some, bl_some, ev_ite, ei_some, ev_call, cl_some, rD_val, rD_own, rD_tup, ev_bi, bf_some, ev_idx, ix_none, ix_some, cp_vi, cpt_none, cpt_val, cpt_own, cpt_tup, cv_val, cv_own, cp_vv, cp_vb, cp_vc, cp_vx, cp_vn, cp_c, cp_x, cp_s, cp_b, cp_f, ev_slc, s3_some, ev_lst, mko_some, ev_tup, tpo_some, ev_dic0, ev_comp, cm_some, evs_nil, evs_cons, cn_some, et_cmp, co_some, et_not, nt_some, et_and, an_some, et_or, or_some, et_ex, tb_some, eb_var, eb_non, eb_bool, eb_int, eb_str, eb_bin, eb_neg, eb_cmp, eb_ite, eb_call, eb_bi, eb_idx, eb_slc, eb_lst, eb_tup, eb_dic0, eb_comp, rd_zero, rd_succ, put_zero, put_succ, asg_put, toV_val, toB_val, toB_own, ownOf_, toO_own, toD_val, toD_own, toD_tup, ctoD_val, ctoD_own, cds_nil, cds_cons, cs2_some, bin_add, bin_sub, bin_mul, bin_fdiv, bin_mod, bi_len, bi_list, idx_il, idx_tup, idx_dic, add_il, rep_il, mk_nil, mk_one, mk_int, mk_dints, lst_dints, lst_nil, slc_il, slc_il0, slc_il1, cmp_eq, cmp_ne, cmp_lt, cmp_le, cmp_gt, cmp_ge, cmp_in, cmp_notin, ok_int, ok_il, eqb_int, eqb_il, lid, sto0, hre, hm4, hmi, hr4, hrg, h1, hl4, kr, h2, dints_nil]
end Mine

set_option maxRecDepth 10000
set_option linter.unusedSimpArgs false
set_option linter.unusedVariables false
namespace Mine
open PySem

noncomputable def fr (k : Nat) : List Int := if k = 0 then [] else (-(k : Int)) :: List.replicate (k - 1) 0
noncomputable def frb (k : Nat) : List Bk := if k = 0 then [] else [.free (k - 1)]
theorem fr_len (k : Nat) : (fr k).length = k := by unfold fr; split <;> simp <;> lia
theorem flat_frb (k : Nat) : flat (frb k) = fr k := by
  unfold frb fr
  split
  · rfl
  · simp [flat, Bk.flat]; lia
theorem fr_zero : fr 0 = [] := rfl
theorem fr_pos {k : Nat} (h : 0 < k) : fr k = (-(k : Int)) :: List.replicate (k - 1) 0 := by unfold fr; rw [if_neg (by lia)]
theorem flat_app : ∀ a b : List Bk, flat (a ++ b) = flat a ++ flat b
  | [], b => rfl
  | x :: a, b => by simp [flat, flat_app a b]
noncomputable def kp (m : List Int) (off : Nat) (b : Bk) : Bool := !b.isFree && decide ((off : Int) ∈ m)
noncomputable def co (m : List Int) : Nat → Nat → List Bk → List Bk
  | _, k, [] => frb k
  | off, k, b :: bs => if kp m off b then frb k ++ b :: co m (off + b.size) 0 bs else co m (off + b.size) (k + b.size) bs
noncomputable def ka (m : List Int) : Nat → List Bk → List Int
  | _, [] => []
  | off, b :: bs => if kp m off b then (off : Int) :: ka m (off + b.size) bs else ka m (off + b.size) bs
noncomputable def At : Nat → List Bk → Int → List Int → Prop
  | _, [], _, _ => False
  | off, b :: bs, a, ws => (a = off ∧ b = .obj ws) ∨ At (off + b.size) bs a ws
noncomputable def frees : Nat → List Bk → List (Nat × Nat)
  | _, [] => []
  | off, b :: bs => (if b.isFree then [(off, b.size)] else []) ++ frees (off + b.size) bs
noncomputable def fsum : List Bk → Nat
  | [] => 0
  | b :: bs => (if b.isFree then b.size else 0) + fsum bs

theorem flat_cons_len (b : Bk) (bs : List Bk) : (flat (b :: bs)).length = b.size + (flat bs).length := by simp [flat, b.flat_len]
theorem At.ge : ∀ {bs : List Bk} {off : Nat} {a : Int} {ws : List Int}, At off bs a ws → (off : Int) ≤ a
  | b :: bs, off, a, ws, .inl h => by lia
  | b :: bs, off, a, ws, .inr h => by have := At.ge h; lia
theorem At.split : ∀ {bs : List Bk} {off : Nat} {a : Int} {ws : List Int}, At off bs a ws → ∃ pre post, flat bs = pre ++ (ws.length : Int) :: (ws ++ post) ∧ a = off + pre.length
  | b :: bs, off, a, ws, .inl ⟨h1, h2⟩ => ⟨[], flat bs, by simp [flat, h2, Bk.flat], by simp [h1]⟩
  | b :: bs, off, a, ws, .inr h => by
    obtain ⟨pre, post, h1, h2⟩ := At.split h
    exact ⟨b.flat ++ pre, post, by simp [flat, h1], by simp [b.flat_len, h2]; lia⟩
theorem At.obj {bs : List Bk} {a : Int} {ws : List Int} (h : At 0 bs a ws) : ObjAt (flat bs) a ws := by
  obtain ⟨pre, post, h1, h2⟩ := h.split
  exact ⟨pre, post, h1, by simpa using h2⟩
theorem At.uniq : ∀ {bs : List Bk} {off : Nat} {a : Int} {ws ws' : List Int}, At off bs a ws → At off bs a ws' → ws = ws'
  | b :: bs, off, a, ws, ws', .inl ⟨_, h⟩, .inl ⟨_, h'⟩ => by rw [h] at h'; cases h'; rfl
  | b :: bs, off, a, ws, ws', .inl ⟨h, _⟩, .inr h' => by have := h'.ge; have := b.size_pos; lia
  | b :: bs, off, a, ws, ws', .inr h, .inl ⟨h', _⟩ => by have := h.ge; have := b.size_pos; lia
  | b :: bs, off, a, ws, ws', .inr h, .inr h' => At.uniq h h'
theorem At.app_left : ∀ {bs cs : List Bk} {off : Nat} {a : Int} {ws : List Int}, At off bs a ws → At off (bs ++ cs) a ws
  | b :: bs, cs, off, a, ws, .inl h => .inl h
  | b :: bs, cs, off, a, ws, .inr h => .inr h.app_left
theorem At.frb {k off : Nat} {bs : List Bk} {a : Int} {ws : List Int} (h : At (off + k) bs a ws) : At off (frb k ++ bs) a ws := by
  unfold Mine.frb
  split
  · rename_i e; subst e; exact h
  · refine .inr ?_
    have : off + (Bk.free (k - 1)).size = off + k := by simp [Bk.size]; lia
    rw [this]; exact h

theorem At.co {m : List Int} : ∀ {bs : List Bk} {off p k : Nat} {a : Int} {ws : List Int}, At off bs a ws → a ∈ m → p + k = off → At p (co m off k bs) a ws
  | b :: bs, off, p, k, a, ws, .inl ⟨h1, h2⟩, hm, hp => by
    have hk : kp m off b = true := by simp [kp, h2, Bk.isFree, ← h1, hm]
    rw [Mine.co, if_pos hk]
    refine At.frb ?_
    rw [hp]
    exact .inl ⟨h1, h2⟩
  | b :: bs, off, p, k, a, ws, .inr h, hm, hp => by
    rw [Mine.co]
    split
    · refine At.frb ?_
      rw [hp]
      exact .inr (At.co h hm (by lia))
    · exact At.co h hm (by lia)
theorem ka_ge {m : List Int} : ∀ {bs : List Bk} {off : Nat}, ∀ a ∈ ka m off bs, (off : Int) ≤ a
  | b :: bs, off, a, h => by
    rw [ka] at h
    have := b.size_pos
    split at h
    · rcases List.mem_cons.mp h with rfl | h
      · lia
      · have := ka_ge a h; lia
    · have := ka_ge a h; lia
theorem ka_sorted {m : List Int} : ∀ (bs : List Bk) (off : Nat), (ka m off bs).Pairwise (· < ·)
  | [], _ => List.Pairwise.nil
  | b :: bs, off => by
    rw [ka]
    have := b.size_pos
    split
    · exact List.Pairwise.cons (fun a h => by have := ka_ge a h; lia) (ka_sorted bs _)
    · exact ka_sorted bs _
theorem ka_at {m : List Int} : ∀ {bs : List Bk} {off : Nat} {a : Int}, a ∈ ka m off bs ↔ a ∈ m ∧ ∃ ws, At off bs a ws
  | [], off, a => by simp [ka, At]
  | b :: bs, off, a => by
    have ih := ka_at (m := m) (bs := bs) (off := off + b.size) (a := a)
    rw [ka]
    cases b with
    | free n => simp [kp, Bk.isFree, At, ih]
    | obj ws =>
      by_cases h : (off : Int) ∈ m
      · simp [kp, Bk.isFree, h, At, ih]
        constructor
        · rintro (rfl | ⟨h1, h2⟩)
          · exact ⟨h, ws, .inl ⟨rfl, rfl⟩⟩
          · obtain ⟨x, hx⟩ := h2; exact ⟨h1, x, .inr hx⟩
        · rintro ⟨h1, x, h2 | h2⟩
          · exact .inl h2.1
          · exact .inr ⟨h1, x, h2⟩
      · simp [kp, Bk.isFree, h, At, ih]
        intro hm
        constructor
        · rintro ⟨x, hx⟩; exact ⟨x, .inr hx⟩
        · rintro ⟨x, h2 | h2⟩
          · exact absurd (h2.1 ▸ hm) h
          · exact ⟨x, h2⟩

theorem sorted_ka {bs : List Bk} {r : List Int} (hn : r.Nodup) (ho : ∀ a ∈ r, ∃ ws, At 0 bs a ws) : r.Perm (ka r 0 bs) ∧ r.mergeSort (fun a b => decide (a ≤ b)) = ka r 0 bs := by
  have hs := ka_sorted (m := r) bs 0
  have hp : r.Perm (ka r 0 bs) := (List.perm_ext_iff_of_nodup hn (hs.imp fun h e => by lia)).mpr fun a => ⟨fun h => ka_at.mpr ⟨h, ho a h⟩, fun h => (ka_at.mp h).1⟩
  refine ⟨hp, ?_⟩
  refine List.Perm.eq_of_pairwise (le := fun a b : Int => a ≤ b) (fun a b _ _ h1 h2 => by lia) ?_ (hs.imp fun h => by lia) ((List.mergeSort_perm _ _).trans hp)
  exact (List.pairwise_mergeSort (fun a b c h1 h2 => by simp at *; lia) (fun a b => by simp; lia) r).imp fun h => by simpa using h

theorem live_sum (f : Int → List Int) : ∀ l : List Int, live f l = (l.map fun a => (f a).length + 1).sum
  | [] => rfl
  | a :: l => by simp [live, live_sum f l]
theorem live_perm {f : Int → List Int} {l l' : List Int} (h : l.Perm l') : live f l = live f l' := by
  rw [live_sum, live_sum]
  exact (h.map _).sum_nat

theorem fsum_app : ∀ a b : List Bk, fsum (a ++ b) = fsum a + fsum b
  | [], b => by simp [fsum]
  | x :: a, b => by simp [fsum, fsum_app a b]; lia
theorem fsum_frb (k : Nat) : fsum (frb k) = k := by
  unfold frb
  split
  · simp [fsum]; lia
  · simp [fsum, Bk.isFree, Bk.size]; lia
theorem co_sum {m : List Int} {f : Int → List Int} : ∀ {bs : List Bk} {off k : Nat}, (∀ a ws, At off bs a ws → f a = ws) → fsum (co m off k bs) + live f (ka m off bs) = k + (flat bs).length
  | [], off, k, _ => by simp [co, ka, live, flat, fsum_frb]
  | b :: bs, off, k, hf => by
    have hf' : ∀ a ws, At (off + b.size) bs a ws → f a = ws := fun a ws h => hf a ws (.inr h)
    rw [co, ka, flat_cons_len]
    split
    · rename_i hk
      have ih := co_sum (m := m) (k := 0) hf'
      cases b with
      | free n => simp [kp, Bk.isFree] at hk
      | obj ws =>
        have e := hf off ws (.inl ⟨rfl, rfl⟩)
        rw [fsum_app, fsum_frb, live, e]
        simp [fsum, Bk.isFree, Bk.size] at ih ⊢
        lia
    · have ih := co_sum (m := m) (k := k + b.size) hf'
      lia

noncomputable def swR (N : List Int) (k : Nat) : Int := if k = 0 then -1 else (N.length : Int)

theorem sw_keep (n : Nat) {mem mk' N blk pre post : List Int} {rn : Int} {fr? : Bool} (hfr : fr? = false) {e1 e2 : Option R} (hmem : mem = pre ++ (blk ++ post)) (hm : mem.length ≤ 4096) (hin : (pre.length : Int) ∈ mk') (hN : N.length + blk.length ≤ 4096) :
    execs (Gt n) N0 100 l_swept_1 [some (.val (il mem)), some (.val (il mk')), some (.own (dints N)), some (.val (.int rn)), some (.val (.tup [.int pre.length, .int blk.length, .bool fr?])), e1, e2]
      = some (.next [some (.val (il mem)), some (.val (il mk')), some (.own (dints (N ++ blk))), some (.val (.int (-1))), some (.val (.tup [.int pre.length, .int blk.length, .bool fr?])), some (.val (.int pre.length)), some (.val (.int blk.length))]) := by
  subst hfr
  have e : ((pre.length : Int) + blk.length).toNat = pre.length + blk.length := by lia
  have hl : List.take blk.length (List.drop pre.length mem) = blk := by rw [hmem]; simp
  have hl2 : min blk.length (mem.length - pre.length) = blk.length := by rw [hmem]; simp
  have h0 : (0 : Int) ≤ (pre.length : Int) + blk.length := by lia
  simp [l_swept_1, run_, rt_ret, rt_next, es_nil, es_cons, nx_next, nx_brk, nx_ret, ex_assign, setV_some, ex_assignO, setR_some, nxt_some, ex_take, tk_tup, tk2_own, ex_frz, fz_some, fv_some, ex_unpack, un_tup, puts_nil, puts_cons, ex_setidx, si_int, si2_some, ex_append, ap_some, ex_ite, br_some, ex_for1, f1_some, ex_for2, f2_some, ex_while, ex_ret, rv_some, ex_ret2, r2_some, ex_brk, ex_laid, ld_some, ld2_some, ld3_some, evI_range, rg_some, evI_seq, sq_some, seq_il, rng_int, evO_call, cO_some, evO_lst, evO_bin, evO_list, ow_some, own_il, own_lst, ev_non, ev_bool, ev_int, ev_str, ev_var, ev_bin, bo_some, ev_neg, ng_some, negD_int, ev_cmp, cb_some, bl_some, ev_ite, ei_some, ev_call, cl_some, rD_val, rD_own, rD_tup, ev_bi, bf_some, ev_idx, ix_none, ix_some, cp_vi, cpt_none, cpt_val, cpt_own, cpt_tup, cv_val, cv_own, cp_vv, cp_vb, cp_vc, cp_vx, cp_vn, cp_c, cp_x, cp_s, cp_b, cp_f, ev_slc, s3_some, ev_lst, mko_some, ev_tup, tpo_some, ev_dic0, ev_comp, cm_some, evs_nil, evs_cons, cn_some, et_cmp, co_some, et_not, nt_some, et_and, an_some, et_or, or_some, et_ex, tb_some, eb_var, eb_non, eb_bool, eb_int, eb_str, eb_bin, eb_neg, eb_cmp, eb_ite, eb_call, eb_bi, eb_idx, eb_slc, eb_lst, eb_tup, eb_dic0, eb_comp, rd_zero, rd_succ, put_zero, put_succ, asg_put, toV_val, toB_val, toB_own, ownOf_, toO_own, toD_val, toD_own, toD_tup, ctoD_val, ctoD_own, cds_nil, cds_cons, cs2_some, bin_add, bin_sub, bin_mul, bin_fdiv, bin_mod, bi_len, bi_list, idx_il, idx_tup, idx_dic, add_il, rep_il, mk_nil, mk_one, mk_int, mk_dints, lst_dints, lst_nil, slc_il, slc_il0, slc_il1, cmp_eq, cmp_ne, cmp_lt, cmp_le, cmp_gt, cmp_ge, cmp_in, cmp_notin, ok_int, ok_il, eqb_int, eqb_il, lid, sto0, hin, hm, h0, e, hl, hl2, hN]
theorem sw_more (n : Nat) {mem mk' N Z : List Int} {h a : Int} {s : Nat} {fr? : Bool} {e1 e2 : Option R} (hk : fr? = false → a ∉ mk') (hN : (N ++ h :: Z).length + s ≤ 4096) :
    execs (Gt n) N0 100 l_swept_1 [some (.val (il mem)), some (.val (il mk')), some (.own (dints (N ++ h :: Z))), some (.val (.int N.length)), some (.val (.tup [.int a, .int s, .bool fr?])), e1, e2]
      = some (.next [some (.val (il mem)), some (.val (il mk')), some (.own (dints (N ++ (h - s) :: Z ++ List.replicate s 0))), some (.val (.int N.length)), some (.val (.tup [.int a, .int s, .bool fr?])), some (.val (.int a)), some (.val (.int s))]) := by
  have hs4 : (s : Int) ≤ 4096 := by lia
  have hN4 : (N.length : Int) < 4096 := by simp at hN; lia
  simp at hN
  have l1 : N.length + (Z.length + 1) ≤ 4096 := by lia
  have l3 : N.length + (Z.length + 1) + s ≤ 4096 := by lia
  have l2 : (N.length : Int) < N.length + (Z.length + 1) := by lia
  cases fr? with
  | true => simp [l_swept_1, run_, rt_ret, rt_next, es_nil, es_cons, nx_next, nx_brk, nx_ret, ex_assign, setV_some, ex_assignO, setR_some, nxt_some, ex_take, tk_tup, tk2_own, ex_frz, fz_some, fv_some, ex_unpack, un_tup, puts_nil, puts_cons, ex_setidx, si_int, si2_some, ex_append, ap_some, ex_ite, br_some, ex_for1, f1_some, ex_for2, f2_some, ex_while, ex_ret, rv_some, ex_ret2, r2_some, ex_brk, ex_laid, ld_some, ld2_some, ld3_some, evI_range, rg_some, evI_seq, sq_some, seq_il, rng_int, evO_call, cO_some, evO_lst, evO_bin, evO_list, ow_some, own_il, own_lst, ev_non, ev_bool, ev_int, ev_str, ev_var, ev_bin, bo_some, ev_neg, ng_some, negD_int, ev_cmp, cb_some, bl_some, ev_ite, ei_some, ev_call, cl_some, rD_val, rD_own, rD_tup, ev_bi, bf_some, ev_idx, ix_none, ix_some, cp_vi, cpt_none, cpt_val, cpt_own, cpt_tup, cv_val, cv_own, cp_vv, cp_vb, cp_vc, cp_vx, cp_vn, cp_c, cp_x, cp_s, cp_b, cp_f, ev_slc, s3_some, ev_lst, mko_some, ev_tup, tpo_some, ev_dic0, ev_comp, cm_some, evs_nil, evs_cons, cn_some, et_cmp, co_some, et_not, nt_some, et_and, an_some, et_or, or_some, et_ex, tb_some, eb_var, eb_non, eb_bool, eb_int, eb_str, eb_bin, eb_neg, eb_cmp, eb_ite, eb_call, eb_bi, eb_idx, eb_slc, eb_lst, eb_tup, eb_dic0, eb_comp, rd_zero, rd_succ, put_zero, put_succ, asg_put, toV_val, toB_val, toB_own, ownOf_, toO_own, toD_val, toD_own, toD_tup, ctoD_val, ctoD_own, cds_nil, cds_cons, cs2_some, bin_add, bin_sub, bin_mul, bin_fdiv, bin_mod, bi_len, bi_list, idx_il, idx_tup, idx_dic, add_il, rep_il, mk_nil, mk_one, mk_int, mk_dints, lst_dints, lst_nil, slc_il, slc_il0, slc_il1, cmp_eq, cmp_ne, cmp_lt, cmp_le, cmp_gt, cmp_ge, cmp_in, cmp_notin, ok_int, ok_il, eqb_int, eqb_il, lid, sto0, hs4, hN4, dints_len, dints_set, l1, l2, l3]
  | false =>
    have hk' := hk rfl
    simp [l_swept_1, run_, rt_ret, rt_next, es_nil, es_cons, nx_next, nx_brk, nx_ret, ex_assign, setV_some, ex_assignO, setR_some, nxt_some, ex_take, tk_tup, tk2_own, ex_frz, fz_some, fv_some, ex_unpack, un_tup, puts_nil, puts_cons, ex_setidx, si_int, si2_some, ex_append, ap_some, ex_ite, br_some, ex_for1, f1_some, ex_for2, f2_some, ex_while, ex_ret, rv_some, ex_ret2, r2_some, ex_brk, ex_laid, ld_some, ld2_some, ld3_some, evI_range, rg_some, evI_seq, sq_some, seq_il, rng_int, evO_call, cO_some, evO_lst, evO_bin, evO_list, ow_some, own_il, own_lst, ev_non, ev_bool, ev_int, ev_str, ev_var, ev_bin, bo_some, ev_neg, ng_some, negD_int, ev_cmp, cb_some, bl_some, ev_ite, ei_some, ev_call, cl_some, rD_val, rD_own, rD_tup, ev_bi, bf_some, ev_idx, ix_none, ix_some, cp_vi, cpt_none, cpt_val, cpt_own, cpt_tup, cv_val, cv_own, cp_vv, cp_vb, cp_vc, cp_vx, cp_vn, cp_c, cp_x, cp_s, cp_b, cp_f, ev_slc, s3_some, ev_lst, mko_some, ev_tup, tpo_some, ev_dic0, ev_comp, cm_some, evs_nil, evs_cons, cn_some, et_cmp, co_some, et_not, nt_some, et_and, an_some, et_or, or_some, et_ex, tb_some, eb_var, eb_non, eb_bool, eb_int, eb_str, eb_bin, eb_neg, eb_cmp, eb_ite, eb_call, eb_bi, eb_idx, eb_slc, eb_lst, eb_tup, eb_dic0, eb_comp, rd_zero, rd_succ, put_zero, put_succ, asg_put, toV_val, toB_val, toB_own, ownOf_, toO_own, toD_val, toD_own, toD_tup, ctoD_val, ctoD_own, cds_nil, cds_cons, cs2_some, bin_add, bin_sub, bin_mul, bin_fdiv, bin_mod, bi_len, bi_list, idx_il, idx_tup, idx_dic, add_il, rep_il, mk_nil, mk_one, mk_int, mk_dints, lst_dints, lst_nil, slc_il, slc_il0, slc_il1, cmp_eq, cmp_ne, cmp_lt, cmp_le, cmp_gt, cmp_ge, cmp_in, cmp_notin, ok_int, ok_il, eqb_int, eqb_il, lid, sto0, hk', hs4, hN4, dints_len, dints_set, l1, l2, l3]
theorem sw_first (n : Nat) {mem mk' N : List Int} {a : Int} {s : Nat} {fr? : Bool} {e1 e2 : Option R} (hk : fr? = false → a ∉ mk') (hs : 0 < s) (hN : N.length + s ≤ 4095) :
    execs (Gt n) N0 100 l_swept_1 [some (.val (il mem)), some (.val (il mk')), some (.own (dints N)), some (.val (.int (-1))), some (.val (.tup [.int a, .int s, .bool fr?])), e1, e2]
      = some (.next [some (.val (il mem)), some (.val (il mk')), some (.own (dints (N ++ fr s))), some (.val (.int N.length)), some (.val (.tup [.int a, .int s, .bool fr?])), some (.val (.int a)), some (.val (.int s))]) := by
  have hs4 : (1 : Int) ≤ s ∧ (s : Int) - 1 ≤ 4096 := by lia
  have hN4 : N.length ≤ 4096 := by lia
  have l1 : N.length + 1 ≤ 4096 := by lia
  have e : ((s : Int) - 1).toNat = s - 1 := by lia
  have l2 : N.length + 1 + (s - 1) ≤ 4096 := by lia
  have l3 : (0 : Int) ≤ (s : Int) - 1 := by lia
  cases fr? with
  | true => simp [l_swept_1, run_, rt_ret, rt_next, es_nil, es_cons, nx_next, nx_brk, nx_ret, ex_assign, setV_some, ex_assignO, setR_some, nxt_some, ex_take, tk_tup, tk2_own, ex_frz, fz_some, fv_some, ex_unpack, un_tup, puts_nil, puts_cons, ex_setidx, si_int, si2_some, ex_append, ap_some, ex_ite, br_some, ex_for1, f1_some, ex_for2, f2_some, ex_while, ex_ret, rv_some, ex_ret2, r2_some, ex_brk, ex_laid, ld_some, ld2_some, ld3_some, evI_range, rg_some, evI_seq, sq_some, seq_il, rng_int, evO_call, cO_some, evO_lst, evO_bin, evO_list, ow_some, own_il, own_lst, ev_non, ev_bool, ev_int, ev_str, ev_var, ev_bin, bo_some, ev_neg, ng_some, negD_int, ev_cmp, cb_some, bl_some, ev_ite, ei_some, ev_call, cl_some, rD_val, rD_own, rD_tup, ev_bi, bf_some, ev_idx, ix_none, ix_some, cp_vi, cpt_none, cpt_val, cpt_own, cpt_tup, cv_val, cv_own, cp_vv, cp_vb, cp_vc, cp_vx, cp_vn, cp_c, cp_x, cp_s, cp_b, cp_f, ev_slc, s3_some, ev_lst, mko_some, ev_tup, tpo_some, ev_dic0, ev_comp, cm_some, evs_nil, evs_cons, cn_some, et_cmp, co_some, et_not, nt_some, et_and, an_some, et_or, or_some, et_ex, tb_some, eb_var, eb_non, eb_bool, eb_int, eb_str, eb_bin, eb_neg, eb_cmp, eb_ite, eb_call, eb_bi, eb_idx, eb_slc, eb_lst, eb_tup, eb_dic0, eb_comp, rd_zero, rd_succ, put_zero, put_succ, asg_put, toV_val, toB_val, toB_own, ownOf_, toO_own, toD_val, toD_own, toD_tup, ctoD_val, ctoD_own, cds_nil, cds_cons, cs2_some, bin_add, bin_sub, bin_mul, bin_fdiv, bin_mod, bi_len, bi_list, idx_il, idx_tup, idx_dic, add_il, rep_il, mk_nil, mk_one, mk_int, mk_dints, lst_dints, lst_nil, slc_il, slc_il0, slc_il1, cmp_eq, cmp_ne, cmp_lt, cmp_le, cmp_gt, cmp_ge, cmp_in, cmp_notin, ok_int, ok_il, eqb_int, eqb_il, lid, sto0, hs4, hN4, l1, l2, l3, e, fr_pos hs]
  | false =>
    have hk' := hk rfl
    simp [l_swept_1, run_, rt_ret, rt_next, es_nil, es_cons, nx_next, nx_brk, nx_ret, ex_assign, setV_some, ex_assignO, setR_some, nxt_some, ex_take, tk_tup, tk2_own, ex_frz, fz_some, fv_some, ex_unpack, un_tup, puts_nil, puts_cons, ex_setidx, si_int, si2_some, ex_append, ap_some, ex_ite, br_some, ex_for1, f1_some, ex_for2, f2_some, ex_while, ex_ret, rv_some, ex_ret2, r2_some, ex_brk, ex_laid, ld_some, ld2_some, ld3_some, evI_range, rg_some, evI_seq, sq_some, seq_il, rng_int, evO_call, cO_some, evO_lst, evO_bin, evO_list, ow_some, own_il, own_lst, ev_non, ev_bool, ev_int, ev_str, ev_var, ev_bin, bo_some, ev_neg, ng_some, negD_int, ev_cmp, cb_some, bl_some, ev_ite, ei_some, ev_call, cl_some, rD_val, rD_own, rD_tup, ev_bi, bf_some, ev_idx, ix_none, ix_some, cp_vi, cpt_none, cpt_val, cpt_own, cpt_tup, cv_val, cv_own, cp_vv, cp_vb, cp_vc, cp_vx, cp_vn, cp_c, cp_x, cp_s, cp_b, cp_f, ev_slc, s3_some, ev_lst, mko_some, ev_tup, tpo_some, ev_dic0, ev_comp, cm_some, evs_nil, evs_cons, cn_some, et_cmp, co_some, et_not, nt_some, et_and, an_some, et_or, or_some, et_ex, tb_some, eb_var, eb_non, eb_bool, eb_int, eb_str, eb_bin, eb_neg, eb_cmp, eb_ite, eb_call, eb_bi, eb_idx, eb_slc, eb_lst, eb_tup, eb_dic0, eb_comp, rd_zero, rd_succ, put_zero, put_succ, asg_put, toV_val, toB_val, toB_own, ownOf_, toO_own, toD_val, toD_own, toD_tup, ctoD_val, ctoD_own, cds_nil, cds_cons, cs2_some, bin_add, bin_sub, bin_mul, bin_fdiv, bin_mod, bi_len, bi_list, idx_il, idx_tup, idx_dic, add_il, rep_il, mk_nil, mk_one, mk_int, mk_dints, lst_dints, lst_nil, slc_il, slc_il0, slc_il1, cmp_eq, cmp_ne, cmp_lt, cmp_le, cmp_gt, cmp_ge, cmp_in, cmp_notin, ok_int, ok_il, eqb_int, eqb_il, lid, sto0, hk', hs4, hN4, l1, l2, l3, e, fr_pos hs]

noncomputable def swS (mem m N : List Int) (rn : Int) (e0 e1 e2 : Option R) : Sto := [some (.val (il mem)), some (.val (il m)), some (.own (dints N)), some (.val (.int rn)), e0, e1, e2]
theorem sw_q1 {n k p t s z : Nat} (h : n + k = p) (hl : t = p + (s + z)) (hm : t < 1000) : n + k + s ≤ 4096 := by lia
theorem swept_run (n : Nat) {bs₀ : List Bk} {m : List Int} (hm : (flat bs₀).length < 1000) : Gt (n + 2) "swept" [il (flat bs₀), il m] = some (.val (il (flat (co m 0 0 bs₀)))) := by
  rw [gt_run (b := b_swept) (vs := vs_swept) rfl rfl]
  have key : ∃ o, fo (asg 4) (execs (Gt (n + 1)) N0 100 l_swept_1) (bks 0 bs₀) (swS (flat bs₀) m [] (-1) none none none) = some o ∧ ∃ σ, o = .next σ ∧ rd σ 2 = some (.own (dints (flat (co m 0 0 bs₀)))) := by
    refine fo_list (fun rem σ => ∃ (bs : List Bk) (pre N : List Int) (k : Nat) (e0 e1 e2 : Option R), rem = bks pre.length bs ∧ flat bs₀ = pre ++ flat bs ∧ N.length + k = pre.length ∧ N ++ flat (co m pre.length k bs) = flat (co m 0 0 bs₀) ∧
      σ = swS (flat bs₀) m (N ++ fr k) (swR N k) e0 e1 e2) _ ?_ ?_ _ _ ⟨bs₀, [], [], 0, none, none, none, rfl, rfl, rfl, rfl, by simp [fr, swR]⟩
    · rintro σ ⟨bs, pre, N, k, e0, e1, e2, hrem, hf, hN, hco, rfl⟩
      have : bs = [] := by cases bs with | nil => rfl | cons _ _ => cases hrem
      subst this
      refine ⟨_, rfl, ?_⟩
      rw [co, flat_frb] at hco
      show some (R.own (dints (N ++ fr k))) = _
      rw [hco]
    · rintro x rr σ ⟨bs, pre, N, k, e0, e1, e2, hrem, hf, hN, hco, rfl⟩
      cases bs with
      | nil => cases hrem
      | cons b bs =>
        rw [bks] at hrem
        cases hrem
        have hfl := b.flat_len
        have hsp := b.size_pos
        have hlen := congrArg List.length hf
        rw [List.length_append, flat_cons_len] at hlen
        have hpl : (pre ++ b.flat).length = pre.length + b.size := by simp [hfl]
        rw [co] at hco
        by_cases hk : kp m pre.length b = true
        · rw [if_pos hk] at hco
          have hb : b.isFree = false ∧ (pre.length : Int) ∈ m := by simpa [kp] using hk
          have hs := sw_keep (n + 1) (mem := flat bs₀) (mk' := m) (N := N ++ fr k) (blk := b.flat) (pre := pre) (post := flat bs) (rn := swR N k) (e1 := e1) (e2 := e2) hb.1 (by rw [hf, flat]) (by lia) hb.2 (by rw [List.length_append, fr_len, hfl]; exact sw_q1 hN hlen hm)
          rw [hfl] at hs
          refine ⟨_, .next _, rfl, hs, bs, pre ++ b.flat, N ++ fr k ++ b.flat, 0, some (.val (.tup [.int pre.length, .int b.size, .bool b.isFree])), some (.val (.int pre.length)), some (.val (.int b.size)), by rw [hpl], by rw [hf, flat, List.append_assoc], by rw [List.length_append, List.length_append, List.length_append, fr_len, hN]; rfl, ?_, by rw [fr_zero, List.append_nil]; rfl⟩
          rw [hpl, ← hco, flat_app, flat_frb, flat]
          simp
        · rw [if_neg hk] at hco
          have hkk : b.isFree = false → (pre.length : Int) ∉ m := fun h1 h2 => hk (by simp [kp, h1, h2])
          by_cases hk0 : k = 0
          · subst hk0
            have hs := sw_first (n + 1) (mem := flat bs₀) (mk' := m) (N := N) (a := (pre.length : Int)) (s := b.size) (fr? := b.isFree) (e1 := e1) (e2 := e2) hkk hsp (by lia)
            rw [fr_zero, List.append_nil, show swR N 0 = -1 from rfl]
            refine ⟨_, .next _, rfl, hs, bs, pre ++ b.flat, N, b.size, some (.val (.tup [.int pre.length, .int b.size, .bool b.isFree])), some (.val (.int pre.length)), some (.val (.int b.size)), by rw [hpl], by rw [hf, flat, List.append_assoc], by rw [hpl]; lia, by rw [hpl, ← hco]; simp, ?_⟩
            rw [swS, swR, if_neg (Nat.ne_of_gt hsp)]
          · have hkp : 0 < k := by lia
            have hs := sw_more (n + 1) (mem := flat bs₀) (mk' := m) (N := N) (h := -(k : Int)) (Z := List.replicate (k - 1) 0) (a := (pre.length : Int)) (s := b.size) (fr? := b.isFree) (e1 := e1) (e2 := e2) hkk (by simp; lia)
            rw [fr_pos hkp, show swR N k = (N.length : Int) by simp [swR, hk0]]
            refine ⟨_, .next _, rfl, hs, bs, pre ++ b.flat, N, k + b.size, some (.val (.tup [.int pre.length, .int b.size, .bool b.isFree])), some (.val (.int pre.length)), some (.val (.int b.size)), by rw [hpl], by rw [hf, flat, List.append_assoc], by rw [hpl]; lia, by rw [hpl, ← hco], ?_⟩
            · have e : List.replicate (k - 1) (0 : Int) ++ List.replicate b.size 0 = List.replicate (k + b.size - 1) 0 := by rw [List.replicate_append_replicate]; congr 1; lia
              rw [fr_pos (by lia)]
              simp [swS, swR, hk0, e]
              rw [show -(k : Int) - b.size = -((k : Int) + b.size) by lia]
  obtain ⟨o, h1, σ, rfl, hr⟩ := key
  have hb := blocks_run n bs₀ (by lia)
  have hbl : (bks 0 bs₀).length ≤ 4096 := by have := bks_len bs₀ 0; lia
  unfold swS at h1
  simp [b_swept, vs_swept, run_, rt_ret, rt_next, es_nil, es_cons, nx_next, nx_brk, nx_ret, ex_assign, setV_some, ex_assignO, setR_some, nxt_some, ex_take, tk_tup, tk2_own, ex_frz, fz_some, fv_some, ex_unpack, un_tup, puts_nil, puts_cons, ex_setidx, si_int, si2_some, ex_append, ap_some, ex_ite, br_some, ex_for1, f1_some, ex_for2, f2_some, ex_while, ex_ret, rv_some, ex_ret2, r2_some, ex_brk, ex_laid, ld_some, ld2_some, ld3_some, evI_range, rg_some, evI_seq, sq_some, seq_il, rng_int, evO_call, cO_some, evO_lst, evO_bin, evO_list, ow_some, own_il, own_lst, ev_non, ev_bool, ev_int, ev_str, ev_var, ev_bin, bo_some, ev_neg, ng_some, negD_int, ev_cmp, cb_some, bl_some, ev_ite, ei_some, ev_call, cl_some, rD_val, rD_own, rD_tup, ev_bi, bf_some, ev_idx, ix_none, ix_some, cp_vi, cpt_none, cpt_val, cpt_own, cpt_tup, cv_val, cv_own, cp_vv, cp_vb, cp_vc, cp_vx, cp_vn, cp_c, cp_x, cp_s, cp_b, cp_f, ev_slc, s3_some, ev_lst, mko_some, ev_tup, tpo_some, ev_dic0, ev_comp, cm_some, evs_nil, evs_cons, cn_some, et_cmp, co_some, et_not, nt_some, et_and, an_some, et_or, or_some, et_ex, tb_some, eb_var, eb_non, eb_bool, eb_int, eb_str, eb_bin, eb_neg, eb_cmp, eb_ite, eb_call, eb_bi, eb_idx, eb_slc, eb_lst, eb_tup, eb_dic0, eb_comp, rd_zero, rd_succ, put_zero, put_succ, asg_put, toV_val, toB_val, toB_own, ownOf_, toO_own, toD_val, toD_own, toD_tup, ctoD_val, ctoD_own, cds_nil, cds_cons, cs2_some, bin_add, bin_sub, bin_mul, bin_fdiv, bin_mod, bi_len, bi_list, idx_il, idx_tup, idx_dic, add_il, rep_il, mk_nil, mk_one, mk_int, mk_dints, lst_dints, lst_nil, slc_il, slc_il0, slc_il1, cmp_eq, cmp_ne, cmp_lt, cmp_le, cmp_gt, cmp_ge, cmp_in, cmp_notin, ok_int, ok_il, eqb_int, eqb_il, lid, sto0, hb, len_lst, hbl, h1, hr]
end Mine

set_option maxRecDepth 10000
set_option linter.unusedSimpArgs false
set_option linter.unusedVariables false
namespace Mine
open PySem

noncomputable def gD (p : Nat × Nat) : D := .tup [.int p.1, .int p.2]
theorem ints_dints : ∀ xs : List Int, dnums (dints xs) = some xs
  | [] => rfl
  | x :: xs => by show (dnums (dints xs)).map (x :: ·) = _; rw [ints_dints xs]; rfl
theorem bi_sorted (xs : List Int) (h : xs.length < 64) : bi1 .sorted (il xs) = some (il (xs.mergeSort fun a b => decide (a ≤ b))) := by
  show ((dnums (dints xs)).bind fun ns => if ns.length < 64 then some (D.lst (dints (ns.mergeSort (fun a b => decide (a ≤ b))))) else none) = _
  rw [ints_dints]
  exact if_pos h

theorem sd_gap (n : Nat) {objs ord due : List Int} {O' : D} {gaps : List D} {size k : Nat} {av : Option R} (hk : 0 < k) (hl : due.length + k ≤ 4000) (hg : gaps.length < 4000) (he : due.length + k = size) :
    execs (Gt n) N0 100 l_law_sweep_due_1 [some (.val O'), some (.val (il ord)), some (.val (.int size)), some (.val (il due)), some (.own gaps), some (.val (.int size))]
      = some (.next [some (.val O'), some (.val (il ord)), some (.val (.int size)), some (.val (il (due ++ fr k))), some (.own (gaps ++ [gD (due.length, k)])), some (.val (.int size))]) := by
  have h1 : due.length ≤ 4096 := by lia
  have h2 : gaps.length < 4096 := by lia
  have h3 : due.length + 1 ≤ 4096 := by lia
  have h4 : due.length + 1 + (k - 1) ≤ 4096 := by lia
  have e : ((k : Int) - 1).toNat = k - 1 := by lia
  have h5 : (0 : Int) ≤ (k : Int) - 1 ∧ (k : Int) - 1 ≤ 4096 ∧ (1 : Int) ≤ k := by lia
  have e2 : (size : Int) - due.length = k := by lia
  have e3 : (due.length : Int) - size = -k := by lia
  have e4 : due.length < size := by lia
  simp [l_law_sweep_due_1, run_, rt_ret, rt_next, es_nil, es_cons, nx_next, nx_brk, nx_ret, ex_assign, setV_some, ex_assignO, setR_some, nxt_some, ex_take, tk_tup, tk2_own, ex_frz, fz_some, fv_some, ex_unpack, un_tup, puts_nil, puts_cons, ex_setidx, si_int, si2_some, ex_append, ap_some, ex_ite, br_some, ex_for1, f1_some, ex_for2, f2_some, ex_while, ex_ret, rv_some, ex_ret2, r2_some, ex_brk, ex_laid, ld_some, ld2_some, ld3_some, evI_range, rg_some, evI_seq, sq_some, seq_il, rng_int, evO_call, cO_some, evO_lst, evO_bin, evO_list, ow_some, own_il, own_lst, ev_non, ev_bool, ev_int, ev_str, ev_var, ev_bin, bo_some, ev_neg, ng_some, negD_int, ev_cmp, cb_some, bl_some, ev_ite, ei_some, ev_call, cl_some, rD_val, rD_own, rD_tup, ev_bi, bf_some, ev_idx, ix_none, ix_some, cp_vi, cpt_none, cpt_val, cpt_own, cpt_tup, cv_val, cv_own, cp_vv, cp_vb, cp_vc, cp_vx, cp_vn, cp_c, cp_x, cp_s, cp_b, cp_f, ev_slc, s3_some, ev_lst, mko_some, ev_tup, tpo_some, ev_dic0, ev_comp, cm_some, evs_nil, evs_cons, cn_some, et_cmp, co_some, et_not, nt_some, et_and, an_some, et_or, or_some, et_ex, tb_some, eb_var, eb_non, eb_bool, eb_int, eb_str, eb_bin, eb_neg, eb_cmp, eb_ite, eb_call, eb_bi, eb_idx, eb_slc, eb_lst, eb_tup, eb_dic0, eb_comp, rd_zero, rd_succ, put_zero, put_succ, asg_put, toV_val, toB_val, toB_own, ownOf_, toO_own, toD_val, toD_own, toD_tup, ctoD_val, ctoD_own, cds_nil, cds_cons, cs2_some, bin_add, bin_sub, bin_mul, bin_fdiv, bin_mod, bi_len, bi_list, idx_il, idx_tup, idx_dic, add_il, rep_il, mk_nil, mk_one, mk_int, mk_dints, lst_dints, lst_nil, slc_il, slc_il0, slc_il1, cmp_eq, cmp_ne, cmp_lt, cmp_le, cmp_gt, cmp_ge, cmp_in, cmp_notin, ok_int, ok_il, eqb_int, eqb_il, lid, sto0, h1, h2, h3, h4, hk, e, h5, e2, e3, e4, fr_pos hk, gD]
theorem sd_end (n : Nat) {ord due : List Int} {O' : D} {gaps : List D} {size : Nat} {av : Option R} (hl : due.length ≤ 4000) (he : due.length = size) :
    execs (Gt n) N0 100 l_law_sweep_due_1 [some (.val O'), some (.val (il ord)), some (.val (.int size)), some (.val (il due)), some (.own gaps), some (.val (.int size))]
      = some (.next [some (.val O'), some (.val (il ord)), some (.val (.int size)), some (.val (il due)), some (.own gaps), some (.val (.int size))]) := by
  subst he
  have h1 : due.length ≤ 4096 := by lia
  simp [l_law_sweep_due_1, run_, rt_ret, rt_next, es_nil, es_cons, nx_next, nx_brk, nx_ret, ex_assign, setV_some, ex_assignO, setR_some, nxt_some, ex_take, tk_tup, tk2_own, ex_frz, fz_some, fv_some, ex_unpack, un_tup, puts_nil, puts_cons, ex_setidx, si_int, si2_some, ex_append, ap_some, ex_ite, br_some, ex_for1, f1_some, ex_for2, f2_some, ex_while, ex_ret, rv_some, ex_ret2, r2_some, ex_brk, ex_laid, ld_some, ld2_some, ld3_some, evI_range, rg_some, evI_seq, sq_some, seq_il, rng_int, evO_call, cO_some, evO_lst, evO_bin, evO_list, ow_some, own_il, own_lst, ev_non, ev_bool, ev_int, ev_str, ev_var, ev_bin, bo_some, ev_neg, ng_some, negD_int, ev_cmp, cb_some, bl_some, ev_ite, ei_some, ev_call, cl_some, rD_val, rD_own, rD_tup, ev_bi, bf_some, ev_idx, ix_none, ix_some, cp_vi, cpt_none, cpt_val, cpt_own, cpt_tup, cv_val, cv_own, cp_vv, cp_vb, cp_vc, cp_vx, cp_vn, cp_c, cp_x, cp_s, cp_b, cp_f, ev_slc, s3_some, ev_lst, mko_some, ev_tup, tpo_some, ev_dic0, ev_comp, cm_some, evs_nil, evs_cons, cn_some, et_cmp, co_some, et_not, nt_some, et_and, an_some, et_or, or_some, et_ex, tb_some, eb_var, eb_non, eb_bool, eb_int, eb_str, eb_bin, eb_neg, eb_cmp, eb_ite, eb_call, eb_bi, eb_idx, eb_slc, eb_lst, eb_tup, eb_dic0, eb_comp, rd_zero, rd_succ, put_zero, put_succ, asg_put, toV_val, toB_val, toB_own, ownOf_, toO_own, toD_val, toD_own, toD_tup, ctoD_val, ctoD_own, cds_nil, cds_cons, cs2_some, bin_add, bin_sub, bin_mul, bin_fdiv, bin_mod, bi_len, bi_list, idx_il, idx_tup, idx_dic, add_il, rep_il, mk_nil, mk_one, mk_int, mk_dints, lst_dints, lst_nil, slc_il, slc_il0, slc_il1, cmp_eq, cmp_ne, cmp_lt, cmp_le, cmp_gt, cmp_ge, cmp_in, cmp_notin, ok_int, ok_il, eqb_int, eqb_il, lid, sto0, h1]
theorem sd_gapk (n : Nat) {ord due ws ks : List Int} {ds gaps : List D} {size k a : Nat} {av : Option R} (hk : 0 < k) (hl : due.length + k + ws.length ≤ 4000) (hg : gaps.length < 4000) (he : due.length + k = a) (ha : a < size) (ho : look (a : Int) ks ds = some (il ws)) :
    execs (Gt n) N0 100 l_law_sweep_due_1 [some (.val (.dic ks ds)), some (.val (il ord)), some (.val (.int size)), some (.val (il due)), some (.own gaps), some (.val (.int a))]
      = some (.next [some (.val (.dic ks ds)), some (.val (il ord)), some (.val (.int size)), some (.val (il (due ++ fr k ++ ((ws.length : Int) :: ws)))), some (.own (gaps ++ [gD (due.length, k)])), some (.val (.int a))]) := by
  have h1 : due.length ≤ 4096 := by lia
  have h2 : gaps.length < 4096 := by lia
  have h3 : due.length + 1 ≤ 4096 := by lia
  have h4 : due.length + 1 + (k - 1) ≤ 4096 := by lia
  have h5 : (0 : Int) ≤ (k : Int) - 1 ∧ (k : Int) - 1 ≤ 4096 ∧ (1 : Int) ≤ k := by lia
  have e : ((k : Int) - 1).toNat = k - 1 := by lia
  have e2 : (a : Int) - due.length = k := by lia
  have e3 : (due.length : Int) - a = -k := by lia
  have e4 : due.length < a := by lia
  have h6 : ws.length ≤ 4096 := by lia
  have h7 : due.length + (k - 1 + 1) + 1 ≤ 4096 := by lia
  have h8 : due.length + (k - 1 + 1 + 1) + ws.length ≤ 4096 := by lia
  simp [l_law_sweep_due_1, run_, rt_ret, rt_next, es_nil, es_cons, nx_next, nx_brk, nx_ret, ex_assign, setV_some, ex_assignO, setR_some, nxt_some, ex_take, tk_tup, tk2_own, ex_frz, fz_some, fv_some, ex_unpack, un_tup, puts_nil, puts_cons, ex_setidx, si_int, si2_some, ex_append, ap_some, ex_ite, br_some, ex_for1, f1_some, ex_for2, f2_some, ex_while, ex_ret, rv_some, ex_ret2, r2_some, ex_brk, ex_laid, ld_some, ld2_some, ld3_some, evI_range, rg_some, evI_seq, sq_some, seq_il, rng_int, evO_call, cO_some, evO_lst, evO_bin, evO_list, ow_some, own_il, own_lst, ev_non, ev_bool, ev_int, ev_str, ev_var, ev_bin, bo_some, ev_neg, ng_some, negD_int, ev_cmp, cb_some, bl_some, ev_ite, ei_some, ev_call, cl_some, rD_val, rD_own, rD_tup, ev_bi, bf_some, ev_idx, ix_none, ix_some, cp_vi, cpt_none, cpt_val, cpt_own, cpt_tup, cv_val, cv_own, cp_vv, cp_vb, cp_vc, cp_vx, cp_vn, cp_c, cp_x, cp_s, cp_b, cp_f, ev_slc, s3_some, ev_lst, mko_some, ev_tup, tpo_some, ev_dic0, ev_comp, cm_some, evs_nil, evs_cons, cn_some, et_cmp, co_some, et_not, nt_some, et_and, an_some, et_or, or_some, et_ex, tb_some, eb_var, eb_non, eb_bool, eb_int, eb_str, eb_bin, eb_neg, eb_cmp, eb_ite, eb_call, eb_bi, eb_idx, eb_slc, eb_lst, eb_tup, eb_dic0, eb_comp, rd_zero, rd_succ, put_zero, put_succ, asg_put, toV_val, toB_val, toB_own, ownOf_, toO_own, toD_val, toD_own, toD_tup, ctoD_val, ctoD_own, cds_nil, cds_cons, cs2_some, bin_add, bin_sub, bin_mul, bin_fdiv, bin_mod, bi_len, bi_list, idx_il, idx_tup, idx_dic, add_il, rep_il, mk_nil, mk_one, mk_int, mk_dints, lst_dints, lst_nil, slc_il, slc_il0, slc_il1, cmp_eq, cmp_ne, cmp_lt, cmp_le, cmp_gt, cmp_ge, cmp_in, cmp_notin, ok_int, ok_il, eqb_int, eqb_il, lid, sto0, h1, h2, h3, h4, hk, e, h5, e2, e3, e4, fr_pos hk, gD, ha, ho, h6, h7, h8]
theorem sd_keep (n : Nat) {ord due ws ks : List Int} {ds gaps : List D} {size a : Nat} {av : Option R} (hl : due.length + ws.length ≤ 4000) (he : due.length = a) (ha : a < size) (ho : look (a : Int) ks ds = some (il ws)) :
    execs (Gt n) N0 100 l_law_sweep_due_1 [some (.val (.dic ks ds)), some (.val (il ord)), some (.val (.int size)), some (.val (il due)), some (.own gaps), some (.val (.int a))]
      = some (.next [some (.val (.dic ks ds)), some (.val (il ord)), some (.val (.int size)), some (.val (il (due ++ ((ws.length : Int) :: ws)))), some (.own gaps), some (.val (.int a))]) := by
  subst he
  have h1 : due.length ≤ 4096 := by lia
  have h3 : due.length + 1 ≤ 4096 := by lia
  have h6 : ws.length ≤ 4096 := by lia
  have h8 : due.length + 1 + ws.length ≤ 4096 := by lia
  simp [l_law_sweep_due_1, run_, rt_ret, rt_next, es_nil, es_cons, nx_next, nx_brk, nx_ret, ex_assign, setV_some, ex_assignO, setR_some, nxt_some, ex_take, tk_tup, tk2_own, ex_frz, fz_some, fv_some, ex_unpack, un_tup, puts_nil, puts_cons, ex_setidx, si_int, si2_some, ex_append, ap_some, ex_ite, br_some, ex_for1, f1_some, ex_for2, f2_some, ex_while, ex_ret, rv_some, ex_ret2, r2_some, ex_brk, ex_laid, ld_some, ld2_some, ld3_some, evI_range, rg_some, evI_seq, sq_some, seq_il, rng_int, evO_call, cO_some, evO_lst, evO_bin, evO_list, ow_some, own_il, own_lst, ev_non, ev_bool, ev_int, ev_str, ev_var, ev_bin, bo_some, ev_neg, ng_some, negD_int, ev_cmp, cb_some, bl_some, ev_ite, ei_some, ev_call, cl_some, rD_val, rD_own, rD_tup, ev_bi, bf_some, ev_idx, ix_none, ix_some, cp_vi, cpt_none, cpt_val, cpt_own, cpt_tup, cv_val, cv_own, cp_vv, cp_vb, cp_vc, cp_vx, cp_vn, cp_c, cp_x, cp_s, cp_b, cp_f, ev_slc, s3_some, ev_lst, mko_some, ev_tup, tpo_some, ev_dic0, ev_comp, cm_some, evs_nil, evs_cons, cn_some, et_cmp, co_some, et_not, nt_some, et_and, an_some, et_or, or_some, et_ex, tb_some, eb_var, eb_non, eb_bool, eb_int, eb_str, eb_bin, eb_neg, eb_cmp, eb_ite, eb_call, eb_bi, eb_idx, eb_slc, eb_lst, eb_tup, eb_dic0, eb_comp, rd_zero, rd_succ, put_zero, put_succ, asg_put, toV_val, toB_val, toB_own, ownOf_, toO_own, toD_val, toD_own, toD_tup, ctoD_val, ctoD_own, cds_nil, cds_cons, cs2_some, bin_add, bin_sub, bin_mul, bin_fdiv, bin_mod, bi_len, bi_list, idx_il, idx_tup, idx_dic, add_il, rep_il, mk_nil, mk_one, mk_int, mk_dints, lst_dints, lst_nil, slc_il, slc_il0, slc_il1, cmp_eq, cmp_ne, cmp_lt, cmp_le, cmp_gt, cmp_ge, cmp_in, cmp_notin, ok_int, ok_il, eqb_int, eqb_il, lid, sto0, h1, h3, ha, ho, h6, h8]

theorem frees_frb (k p : Nat) (bs : List Bk) : frees p (frb k ++ bs) = (if k = 0 then [] else [(p, k)]) ++ frees (p + k) bs := by
  unfold frb
  split
  · rename_i e; subst e; simp
  · have : (k - 1) + 1 = k := by lia
    simp [frees, Bk.isFree, Bk.size, this]

theorem sd_loop (n : Nat) {f : Int → List Int} {ord ks : List Int} {ds : List D} {size : Nat} (hs : size < 1000) (hobj : ∀ a ∈ ord, look a ks ds = some (il (f a))) : ∀ (bs : List Bk) (off k : Nat) (N : List Int) (gaps : List D) (av : Option R),
    (∀ a ws, At off bs a ws → f a = ws) → N.length + k = off → off + (flat bs).length = size → gaps.length ≤ N.length →
    ∃ av', fo (asg 5) (execs (Gt n) N0 100 l_law_sweep_due_1) (dints (ka ord off bs ++ [(size : Int)])) [some (.val (.dic ks ds)), some (.val (il ord)), some (.val (.int size)), some (.val (il N)), some (.own gaps), av]
      = some (.next [some (.val (.dic ks ds)), some (.val (il ord)), some (.val (.int size)), some (.val (il (N ++ flat (co ord off k bs)))), some (.own (gaps ++ (frees N.length (co ord off k bs)).map gD)), av'])
  | [], off, k, N, gaps, av, hf, hN, hsz, hg => by
    simp [flat] at hsz
    rw [ka, List.nil_append, dints_cons, dints_nil, co]
    have hfr := frees_frb k N.length []
    rw [List.append_nil] at hfr
    rw [hfr, flat_frb]
    by_cases hk : k = 0
    · subst hk
      have hs := sd_end n (ord := ord) (O' := .dic ks ds) (gaps := gaps) (due := N) (size := size) (av := none) (by lia) (by lia)
      exact ⟨some (.val (.int size)), by rw [fo]; simp [asg, hs, fo, fr_zero, frees]⟩
    · have hs := sd_gap n (objs := []) (ord := ord) (O' := .dic ks ds) (gaps := gaps) (due := N) (size := size) (k := k) (av := none) (by lia) (by lia) (by lia) (by lia)
      exact ⟨some (.val (.int size)), by rw [fo]; simp [asg, hs, fo, hk, frees]⟩
  | b :: bs, off, k, N, gaps, av, hf, hN, hsz, hg => by
    rw [flat_cons_len] at hsz
    have hsp := b.size_pos
    have hf' : ∀ a ws, At (off + b.size) bs a ws → f a = ws := fun a ws h => hf a ws (.inr h)
    rw [ka, co]
    by_cases hk : kp ord off b = true
    · rw [if_pos hk, if_pos hk]
      cases b with
      | free m => simp [kp, Bk.isFree] at hk
      | obj ws =>
        have hin : (off : Int) ∈ ord := by simpa [kp, Bk.isFree] using hk
        have e := hf off ws (.inl ⟨rfl, rfl⟩)
        have ho := hobj off hin
        rw [e] at ho
        simp only [Bk.size] at hsz hsp hf'
        rw [List.cons_append, dints_cons, fo]
        have hfl : (N ++ fr k ++ ((ws.length : Int) :: ws)).length = off + (ws.length + 1) := by simp [fr_len]; lia
        have ee : N ++ flat (frb k ++ Bk.obj ws :: co ord (off + (Bk.obj ws).size) 0 bs) = (N ++ fr k ++ ((ws.length : Int) :: ws)) ++ flat (co ord (off + (ws.length + 1)) 0 bs) := by
          rw [flat_app, flat_frb, flat]; simp [Bk.flat, Bk.size]
        by_cases hk0 : k = 0
        · subst hk0
          have hst := sd_keep n (ord := ord) (gaps := gaps) (due := N) (size := size) (av := none) (a := off) (by lia) (by lia) (by lia) ho
          obtain ⟨av', h⟩ := sd_loop n hs hobj bs (off + (ws.length + 1)) 0 (N ++ fr 0 ++ ((ws.length : Int) :: ws)) gaps (some (.val (.int off))) hf' (by rw [hfl]; rfl) (by lia) (by rw [hfl]; lia)
          rw [hfl] at h
          refine ⟨av', ?_⟩
          rw [ee, frees_frb]
          simp only [fr_zero, List.append_nil] at h ⊢
          simp [asg, hst, frees, Bk.isFree, Bk.size]
          have : N.length = off := by lia
          rw [this]
          simpa [Bk.size] using h
        · have hst := sd_gapk n (ord := ord) (gaps := gaps) (due := N) (size := size) (av := none) (a := off) (k := k) (by lia) (by lia) (by lia) (by lia) (by lia) ho
          obtain ⟨av', h⟩ := sd_loop n hs hobj bs (off + (ws.length + 1)) 0 (N ++ fr k ++ ((ws.length : Int) :: ws)) (gaps ++ [gD (N.length, k)]) (some (.val (.int off))) hf' (by rw [hfl]; rfl) (by lia) (by rw [hfl]; simp; lia)
          rw [hfl] at h
          refine ⟨av', ?_⟩
          rw [ee, frees_frb, if_neg hk0, hN]
          simp [asg, hst, frees, Bk.isFree, Bk.size]
          simpa [Bk.size] using h
    · rw [if_neg hk, if_neg hk]
      exact sd_loop n hs hobj bs (off + b.size) (k + b.size) N gaps av hf' (by lia) (by lia) hg

theorem sweep_due_run (n : Nat) {f : Int → List Int} {r ks : List Int} {ds : List D} {bs : List Bk} (hs : (flat bs).length < 1000) (hr : r.length < 64) (hn : r.Nodup) (ho : ∀ a ∈ r, ∃ ws, At 0 bs a ws) (hf : ∀ a ws, At 0 bs a ws → f a = ws) (hobj : ∀ a ∈ r, look a ks ds = some (il (f a))) :
    Gt (n + 1) "_law_sweep_due" [.dic ks ds, il r, .int (flat bs).length] = some (.val (.tup [il (flat (co r 0 0 bs)), .lst ((frees 0 (co r 0 0 bs)).map gD)])) := by
  rw [gt_run (b := b_law_sweep_due) (vs := vs_law_sweep_due) rfl rfl]
  obtain ⟨hp, hso⟩ := sorted_ka hn ho
  obtain ⟨av', h⟩ := sd_loop n (ord := r) hs hobj bs 0 0 [] [] none hf rfl (by simp) (by simp)
  have hbs := bi_sorted r hr
  rw [hso] at hbs
  have hkl : (ka r 0 bs).length + 1 ≤ 4096 := by have := hp.length_eq; lia
  simp only [List.nil_append, List.length_nil] at h
  simp [b_law_sweep_due, vs_law_sweep_due, run_, rt_ret, rt_next, es_nil, es_cons, nx_next, nx_brk, nx_ret, ex_assign, setV_some, ex_assignO, setR_some, nxt_some, ex_take, tk_tup, tk2_own, ex_frz, fz_some, fv_some, ex_unpack, un_tup, puts_nil, puts_cons, ex_setidx, si_int, si2_some, ex_append, ap_some, ex_ite, br_some, ex_for1, f1_some, ex_for2, f2_some, ex_while, ex_ret, rv_some, ex_ret2, r2_some, ex_brk, ex_laid, ld_some, ld2_some, ld3_some, evI_range, rg_some, evI_seq, sq_some, seq_il, rng_int, evO_call, cO_some, evO_lst, evO_bin, evO_list, ow_some, own_il, own_lst, ev_non, ev_bool, ev_int, ev_str, ev_var, ev_bin, bo_some, ev_neg, ng_some, negD_int, ev_cmp, cb_some, bl_some, ev_ite, ei_some, ev_call, cl_some, rD_val, rD_own, rD_tup, ev_bi, bf_some, ev_idx, ix_none, ix_some, cp_vi, cpt_none, cpt_val, cpt_own, cpt_tup, cv_val, cv_own, cp_vv, cp_vb, cp_vc, cp_vx, cp_vn, cp_c, cp_x, cp_s, cp_b, cp_f, ev_slc, s3_some, ev_lst, mko_some, ev_tup, tpo_some, ev_dic0, ev_comp, cm_some, evs_nil, evs_cons, cn_some, et_cmp, co_some, et_not, nt_some, et_and, an_some, et_or, or_some, et_ex, tb_some, eb_var, eb_non, eb_bool, eb_int, eb_str, eb_bin, eb_neg, eb_cmp, eb_ite, eb_call, eb_bi, eb_idx, eb_slc, eb_lst, eb_tup, eb_dic0, eb_comp, rd_zero, rd_succ, put_zero, put_succ, asg_put, toV_val, toB_val, toB_own, ownOf_, toO_own, toD_val, toD_own, toD_tup, ctoD_val, ctoD_own, cds_nil, cds_cons, cs2_some, bin_add, bin_sub, bin_mul, bin_fdiv, bin_mod, bi_len, bi_list, idx_il, idx_tup, idx_dic, add_il, rep_il, mk_nil, mk_one, mk_int, mk_dints, lst_dints, lst_nil, slc_il, slc_il0, slc_il1, cmp_eq, cmp_ne, cmp_lt, cmp_le, cmp_gt, cmp_ge, cmp_in, cmp_notin, ok_int, ok_il, eqb_int, eqb_il, lid, sto0, hbs, hkl, h, dints_nil]

theorem free_words_run (n : Nat) (bs : List Bk) (hs : (flat bs).length < 1000) : Gt (n + 2) "free_words" [il (flat bs)] = some (.val (.int (fsum bs))) := by
  rw [gt_run (b := b_free_words) (vs := vs_free_words) rfl rfl]
  have key : ∀ (mem : D) (bs : List Bk) (off t : Nat) (av : Option R), ∃ av', fo (asg 2) (execs (Gt (n + 1)) N0 100 l_free_words_1) (bks off bs) [some (.val (mem)), some (.val (.int t)), av] = some (.next [some (.val (mem)), some (.val (.int ((t + fsum bs : Nat) : Int))), av']) := by
    intro mem bs
    induction bs with
    | nil => intro off t av; exact ⟨av, by simp [bks, fo, fsum]⟩
    | cons b bs ih =>
      intro off t av
      cases b with
      | free m =>
        obtain ⟨av', h⟩ := ih (off + (Bk.free m).size) (t + (m + 1)) (some (.val (.tup [.int off, .int (Bk.free m).size, .bool true])))
        refine ⟨av', ?_⟩
        rw [bks, fo]
        simp [asg, l_free_words_1, run_, rt_ret, rt_next, es_nil, es_cons, nx_next, nx_brk, nx_ret, ex_assign, setV_some, ex_assignO, setR_some, nxt_some, ex_take, tk_tup, tk2_own, ex_frz, fz_some, fv_some, ex_unpack, un_tup, puts_nil, puts_cons, ex_setidx, si_int, si2_some, ex_append, ap_some, ex_ite, br_some, ex_for1, f1_some, ex_for2, f2_some, ex_while, ex_ret, rv_some, ex_ret2, r2_some, ex_brk, ex_laid, ld_some, ld2_some, ld3_some, evI_range, rg_some, evI_seq, sq_some, seq_il, rng_int, evO_call, cO_some, evO_lst, evO_bin, evO_list, ow_some, own_il, own_lst, ev_non, ev_bool, ev_int, ev_str, ev_var, ev_bin, bo_some, ev_neg, ng_some, negD_int, ev_cmp, cb_some, bl_some, ev_ite, ei_some, ev_call, cl_some, rD_val, rD_own, rD_tup, ev_bi, bf_some, ev_idx, ix_none, ix_some, cp_vi, cpt_none, cpt_val, cpt_own, cpt_tup, cv_val, cv_own, cp_vv, cp_vb, cp_vc, cp_vx, cp_vn, cp_c, cp_x, cp_s, cp_b, cp_f, ev_slc, s3_some, ev_lst, mko_some, ev_tup, tpo_some, ev_dic0, ev_comp, cm_some, evs_nil, evs_cons, cn_some, et_cmp, co_some, et_not, nt_some, et_and, an_some, et_or, or_some, et_ex, tb_some, eb_var, eb_non, eb_bool, eb_int, eb_str, eb_bin, eb_neg, eb_cmp, eb_ite, eb_call, eb_bi, eb_idx, eb_slc, eb_lst, eb_tup, eb_dic0, eb_comp, rd_zero, rd_succ, put_zero, put_succ, asg_put, toV_val, toB_val, toB_own, ownOf_, toO_own, toD_val, toD_own, toD_tup, ctoD_val, ctoD_own, cds_nil, cds_cons, cs2_some, bin_add, bin_sub, bin_mul, bin_fdiv, bin_mod, bi_len, bi_list, idx_il, idx_tup, idx_dic, add_il, rep_il, mk_nil, mk_one, mk_int, mk_dints, lst_dints, lst_nil, slc_il, slc_il0, slc_il1, cmp_eq, cmp_ne, cmp_lt, cmp_le, cmp_gt, cmp_ge, cmp_in, cmp_notin, ok_int, ok_il, eqb_int, eqb_il, lid, sto0, Bk.isFree, Bk.size, fsum] at h ⊢
        rw [show (t : Int) + ((m : Int) + 1 + fsum bs) = t + (m + 1) + fsum bs by lia]
        exact h
      | obj ws =>
        obtain ⟨av', h⟩ := ih (off + (Bk.obj ws).size) t (some (.val (.tup [.int off, .int (Bk.obj ws).size, .bool false])))
        refine ⟨av', ?_⟩
        rw [bks, fo]
        simp [asg, l_free_words_1, run_, rt_ret, rt_next, es_nil, es_cons, nx_next, nx_brk, nx_ret, ex_assign, setV_some, ex_assignO, setR_some, nxt_some, ex_take, tk_tup, tk2_own, ex_frz, fz_some, fv_some, ex_unpack, un_tup, puts_nil, puts_cons, ex_setidx, si_int, si2_some, ex_append, ap_some, ex_ite, br_some, ex_for1, f1_some, ex_for2, f2_some, ex_while, ex_ret, rv_some, ex_ret2, r2_some, ex_brk, ex_laid, ld_some, ld2_some, ld3_some, evI_range, rg_some, evI_seq, sq_some, seq_il, rng_int, evO_call, cO_some, evO_lst, evO_bin, evO_list, ow_some, own_il, own_lst, ev_non, ev_bool, ev_int, ev_str, ev_var, ev_bin, bo_some, ev_neg, ng_some, negD_int, ev_cmp, cb_some, bl_some, ev_ite, ei_some, ev_call, cl_some, rD_val, rD_own, rD_tup, ev_bi, bf_some, ev_idx, ix_none, ix_some, cp_vi, cpt_none, cpt_val, cpt_own, cpt_tup, cv_val, cv_own, cp_vv, cp_vb, cp_vc, cp_vx, cp_vn, cp_c, cp_x, cp_s, cp_b, cp_f, ev_slc, s3_some, ev_lst, mko_some, ev_tup, tpo_some, ev_dic0, ev_comp, cm_some, evs_nil, evs_cons, cn_some, et_cmp, co_some, et_not, nt_some, et_and, an_some, et_or, or_some, et_ex, tb_some, eb_var, eb_non, eb_bool, eb_int, eb_str, eb_bin, eb_neg, eb_cmp, eb_ite, eb_call, eb_bi, eb_idx, eb_slc, eb_lst, eb_tup, eb_dic0, eb_comp, rd_zero, rd_succ, put_zero, put_succ, asg_put, toV_val, toB_val, toB_own, ownOf_, toO_own, toD_val, toD_own, toD_tup, ctoD_val, ctoD_own, cds_nil, cds_cons, cs2_some, bin_add, bin_sub, bin_mul, bin_fdiv, bin_mod, bi_len, bi_list, idx_il, idx_tup, idx_dic, add_il, rep_il, mk_nil, mk_one, mk_int, mk_dints, lst_dints, lst_nil, slc_il, slc_il0, slc_il1, cmp_eq, cmp_ne, cmp_lt, cmp_le, cmp_gt, cmp_ge, cmp_in, cmp_notin, ok_int, ok_il, eqb_int, eqb_il, lid, sto0, Bk.isFree, Bk.size, fsum] at h ⊢
        exact h
  obtain ⟨av', h⟩ := key (il (flat bs)) bs 0 0 none
  have hb := blocks_run n bs (by lia)
  have hbl : (bks 0 bs).length ≤ 4096 := by have := bks_len bs 0; lia
  simp at h
  simp [b_free_words, vs_free_words, run_, rt_ret, rt_next, es_nil, es_cons, nx_next, nx_brk, nx_ret, ex_assign, setV_some, ex_assignO, setR_some, nxt_some, ex_take, tk_tup, tk2_own, ex_frz, fz_some, fv_some, ex_unpack, un_tup, puts_nil, puts_cons, ex_setidx, si_int, si2_some, ex_append, ap_some, ex_ite, br_some, ex_for1, f1_some, ex_for2, f2_some, ex_while, ex_ret, rv_some, ex_ret2, r2_some, ex_brk, ex_laid, ld_some, ld2_some, ld3_some, evI_range, rg_some, evI_seq, sq_some, seq_il, rng_int, evO_call, cO_some, evO_lst, evO_bin, evO_list, ow_some, own_il, own_lst, ev_non, ev_bool, ev_int, ev_str, ev_var, ev_bin, bo_some, ev_neg, ng_some, negD_int, ev_cmp, cb_some, bl_some, ev_ite, ei_some, ev_call, cl_some, rD_val, rD_own, rD_tup, ev_bi, bf_some, ev_idx, ix_none, ix_some, cp_vi, cpt_none, cpt_val, cpt_own, cpt_tup, cv_val, cv_own, cp_vv, cp_vb, cp_vc, cp_vx, cp_vn, cp_c, cp_x, cp_s, cp_b, cp_f, ev_slc, s3_some, ev_lst, mko_some, ev_tup, tpo_some, ev_dic0, ev_comp, cm_some, evs_nil, evs_cons, cn_some, et_cmp, co_some, et_not, nt_some, et_and, an_some, et_or, or_some, et_ex, tb_some, eb_var, eb_non, eb_bool, eb_int, eb_str, eb_bin, eb_neg, eb_cmp, eb_ite, eb_call, eb_bi, eb_idx, eb_slc, eb_lst, eb_tup, eb_dic0, eb_comp, rd_zero, rd_succ, put_zero, put_succ, asg_put, toV_val, toB_val, toB_own, ownOf_, toO_own, toD_val, toD_own, toD_tup, ctoD_val, ctoD_own, cds_nil, cds_cons, cs2_some, bin_add, bin_sub, bin_mul, bin_fdiv, bin_mod, bi_len, bi_list, idx_il, idx_tup, idx_dic, add_il, rep_il, mk_nil, mk_one, mk_int, mk_dints, lst_dints, lst_nil, slc_il, slc_il0, slc_il1, cmp_eq, cmp_ne, cmp_lt, cmp_le, cmp_gt, cmp_ge, cmp_in, cmp_notin, ok_int, ok_il, eqb_int, eqb_il, lid, sto0, hb, len_lst, hbl, h]

theorem sweeping_run (n : Nat) {f : Int → List Int} {bs : List Bk} {roots r : List Int} {k : Nat} (hm : (flat bs).length < 1000) (g : Go f k [] roots r) (hk : k < 99) (hr1 : r.length < 99) (hobj : ∀ a ∈ r, ObjAt (flat bs) a (f a) ∧ (f a).length < 1000) :
    Gt (n + 3) "collected_by_sweeping" [il (flat bs), il roots] = some (.val (il (flat (co r 0 0 bs)))) := by
  rw [gt_run (b := b_collected_by_sweeping) (vs := vs_collected_by_sweeping) rfl rfl]
  have hre := reachable_run n (mem := il (flat bs)) g hk hr1 (fun a ha => ⟨(hobj a ha).1.fields n (by lia), (hobj a ha).2⟩)
  have hsw := swept_run n (bs₀ := bs) (m := r) hm
  simp [b_collected_by_sweeping, vs_collected_by_sweeping, run_, rt_ret, rt_next, es_nil, es_cons, nx_next, nx_brk, nx_ret, ex_assign, setV_some, ex_assignO, setR_some, nxt_some, ex_take, tk_tup, tk2_own, ex_frz, fz_some, fv_some, ex_unpack, un_tup, puts_nil, puts_cons, ex_setidx, si_int, si2_some, ex_append, ap_some, ex_ite, br_some, ex_for1, f1_some, ex_for2, f2_some, ex_while, ex_ret, rv_some, ex_ret2, r2_some, ex_brk, ex_laid, ld_some, ld2_some, ld3_some, evI_range, rg_some, evI_seq, sq_some, seq_il, rng_int, evO_call, cO_some, evO_lst, evO_bin, evO_list, ow_some, own_il, own_lst, ev_non, ev_bool, ev_int, ev_str, ev_var, ev_bin, bo_some, ev_neg, ng_some, negD_int, ev_cmp, cb_some, bl_some, ev_ite, ei_some, ev_call, cl_some, rD_val, rD_own, rD_tup, ev_bi, bf_some, ev_idx, ix_none, ix_some, cp_vi, cpt_none, cpt_val, cpt_own, cpt_tup, cv_val, cv_own, cp_vv, cp_vb, cp_vc, cp_vx, cp_vn, cp_c, cp_x, cp_s, cp_b, cp_f, ev_slc, s3_some, ev_lst, mko_some, ev_tup, tpo_some, ev_dic0, ev_comp, cm_some, evs_nil, evs_cons, cn_some, et_cmp, co_some, et_not, nt_some, et_and, an_some, et_or, or_some, et_ex, tb_some, eb_var, eb_non, eb_bool, eb_int, eb_str, eb_bin, eb_neg, eb_cmp, eb_ite, eb_call, eb_bi, eb_idx, eb_slc, eb_lst, eb_tup, eb_dic0, eb_comp, rd_zero, rd_succ, put_zero, put_succ, asg_put, toV_val, toB_val, toB_own, ownOf_, toO_own, toD_val, toD_own, toD_tup, ctoD_val, ctoD_own, cds_nil, cds_cons, cs2_some, bin_add, bin_sub, bin_mul, bin_fdiv, bin_mod, bi_len, bi_list, idx_il, idx_tup, idx_dic, add_il, rep_il, mk_nil, mk_one, mk_int, mk_dints, lst_dints, lst_nil, slc_il, slc_il0, slc_il1, cmp_eq, cmp_ne, cmp_lt, cmp_le, cmp_gt, cmp_ge, cmp_in, cmp_notin, ok_int, ok_il, eqb_int, eqb_il, lid, sto0, hre, hsw]
end Mine

set_option maxRecDepth 10000
set_option linter.unusedSimpArgs false
set_option linter.unusedVariables false
namespace Mine
open PySem

noncomputable def laidL (mem fields : List Int) (a n : Nat) : List Int :=
  mem.take a ++ ((fields.length : Int) :: fields) ++ (if fields.length + 1 < n then ((fields.length : Int) + 1 - n) :: mem.drop (a + fields.length + 2) else mem.drop (a + fields.length + 1))
noncomputable def laidF (mem fields : List Int) : Option (Nat × Nat) → D
  | some p => .tup [il (laidL mem fields p.1 p.2), .int p.1]
  | none => .str (Str.ofString "oom")
noncomputable def fits (fields : List Int) (p : Nat × Nat) : Bool := decide (fields.length < p.2)

theorem laid_due_run (n : Nat) {mem fields : List Int} {gs : List (Nat × Nat)} (hm : mem.length < 1000) (hf : fields.length < 1000) (hgl : gs.length ≤ 4096) (hg : ∀ p ∈ gs, p.1 + p.2 ≤ mem.length) :
    Gt (n + 1) "_law_laid_due" [il mem, .lst (gs.map gD), il fields] = some (.val (laidF mem fields (gs.find? (fits fields)))) := by
  rw [gt_run (b := b_law_laid_due) (vs := vs_law_laid_due) rfl rfl]
  have hf4 : fields.length ≤ 4096 := by lia
  have key : ∀ (gs' : List (Nat × Nat)) (G : D) (av lv : Option R), (∀ p ∈ gs', p.1 + p.2 ≤ mem.length) → ∃ o, fo (asg2 3 4) (execs (Gt n) N0 100 l_law_laid_due_1) (gs'.map gD) [some (.val (il mem)), some (.val G), some (.val (il fields)), av, lv, none] = some o ∧
      (match gs'.find? (fits fields) with | some p => o = .ret (.val (laidF mem fields (some p))) | none => ∃ σ, o = .next σ) := by
    intro gs'
    induction gs' with
    | nil => intro G av lv _; exact ⟨_, rfl, _, rfl⟩
    | cons p gs' ih =>
      intro G av lv hg
      by_cases hp : fields.length < p.2
      · have hfit : fits fields p = true := by simp [fits, hp]
        have hpm := hg p (.head _)
        refine ⟨.ret (.val (laidF mem fields (some p))), ?_, by rw [List.find?_cons_of_pos hfit]⟩
        have ha : asg2 3 4 (gD p) [some (.val (il mem)), some (.val G), some (.val (il fields)), av, lv, none] = some [some (.val (il mem)), some (.val G), some (.val (il fields)), some (.val (.int p.1)), some (.val (.int p.2)), none] := rfl
        have hb : execs (Gt n) N0 100 l_law_laid_due_1 [some (.val (il mem)), some (.val G), some (.val (il fields)), some (.val (.int p.1)), some (.val (.int p.2)), none] = some (.ret (.val (laidF mem fields (some p)))) := by
          have hm4 : mem.length ≤ 4096 := by lia
          have l1 : min p.1 mem.length + 1 ≤ 4096 := by lia
          have l2 : min p.1 mem.length + 1 + fields.length ≤ 4096 := by lia
          have hmn : min p.1 mem.length = p.1 := by lia
          have l5 : p.1 + (fields.length + 1) ≤ 4096 := by lia
          have l6 : p.1 + 1 + fields.length ≤ 4096 := by lia
          have l7 : p.1 + 1 ≤ 4096 := by lia
          by_cases hq : fields.length + 1 < p.2
          · have hq' : (fields.length : Int) + 1 < p.2 := by lia
            have l8 : p.1 + (fields.length + 1) ≤ 4095 := by lia
            have e1 : ((p.1 : Int) + (fields.length + 1 + 1)).toNat = p.1 + fields.length + 2 := by lia
            have g1 : (0 : Int) ≤ (p.1 : Int) + (fields.length + 1 + 1) := by lia
            have l9 : p.1 + (fields.length + 1 + 1) + (mem.length - (p.1 + fields.length + 2)) ≤ 4096 := by lia
            have l10 : p.1 + (fields.length + 1 + 1) ≤ 4096 := by lia
            simp [l_law_laid_due_1, run_, rt_ret, rt_next, es_nil, es_cons, nx_next, nx_brk, nx_ret, ex_assign, setV_some, ex_assignO, setR_some, nxt_some, ex_take, tk_tup, tk2_own, ex_frz, fz_some, fv_some, ex_unpack, un_tup, puts_nil, puts_cons, ex_setidx, si_int, si2_some, ex_append, ap_some, ex_ite, br_some, ex_for1, f1_some, ex_for2, f2_some, ex_while, ex_ret, rv_some, ex_ret2, r2_some, ex_brk, ex_laid, ld_some, ld2_some, ld3_some, evI_range, rg_some, evI_seq, sq_some, seq_il, rng_int, evO_call, cO_some, evO_lst, evO_bin, evO_list, ow_some, own_il, own_lst, ev_non, ev_bool, ev_int, ev_str, ev_var, ev_bin, bo_some, ev_neg, ng_some, negD_int, ev_cmp, cb_some, bl_some, ev_ite, ei_some, ev_call, cl_some, rD_val, rD_own, rD_tup, ev_bi, bf_some, ev_idx, ix_none, ix_some, cp_vi, cpt_none, cpt_val, cpt_own, cpt_tup, cv_val, cv_own, cp_vv, cp_vb, cp_vc, cp_vx, cp_vn, cp_c, cp_x, cp_s, cp_b, cp_f, ev_slc, s3_some, ev_lst, mko_some, ev_tup, tpo_some, ev_dic0, ev_comp, cm_some, evs_nil, evs_cons, cn_some, et_cmp, co_some, et_not, nt_some, et_and, an_some, et_or, or_some, et_ex, tb_some, eb_var, eb_non, eb_bool, eb_int, eb_str, eb_bin, eb_neg, eb_cmp, eb_ite, eb_call, eb_bi, eb_idx, eb_slc, eb_lst, eb_tup, eb_dic0, eb_comp, rd_zero, rd_succ, put_zero, put_succ, asg_put, toV_val, toB_val, toB_own, ownOf_, toO_own, toD_val, toD_own, toD_tup, ctoD_val, ctoD_own, cds_nil, cds_cons, cs2_some, bin_add, bin_sub, bin_mul, bin_fdiv, bin_mod, bi_len, bi_list, idx_il, idx_tup, idx_dic, add_il, rep_il, mk_nil, mk_one, mk_int, mk_dints, lst_dints, lst_nil, slc_il, slc_il0, slc_il1, cmp_eq, cmp_ne, cmp_lt, cmp_le, cmp_gt, cmp_ge, cmp_in, cmp_notin, ok_int, ok_il, eqb_int, eqb_il, lid, sto0, hp, hf4, hm4, l1, l2, hmn, hq, hq', l5, l6, l7, l8, l9, l10, e1, g1, laidF, laidL]
          · have hq' : ¬ (fields.length : Int) + 1 < p.2 := by lia
            have e1 : ((p.1 : Int) + (fields.length + 1)).toNat = p.1 + fields.length + 1 := by lia
            have g1 : (0 : Int) ≤ (p.1 : Int) + (fields.length + 1) := by lia
            have l9 : p.1 + (fields.length + 1) + (mem.length - (p.1 + fields.length + 1)) ≤ 4096 := by lia
            simp [l_law_laid_due_1, run_, rt_ret, rt_next, es_nil, es_cons, nx_next, nx_brk, nx_ret, ex_assign, setV_some, ex_assignO, setR_some, nxt_some, ex_take, tk_tup, tk2_own, ex_frz, fz_some, fv_some, ex_unpack, un_tup, puts_nil, puts_cons, ex_setidx, si_int, si2_some, ex_append, ap_some, ex_ite, br_some, ex_for1, f1_some, ex_for2, f2_some, ex_while, ex_ret, rv_some, ex_ret2, r2_some, ex_brk, ex_laid, ld_some, ld2_some, ld3_some, evI_range, rg_some, evI_seq, sq_some, seq_il, rng_int, evO_call, cO_some, evO_lst, evO_bin, evO_list, ow_some, own_il, own_lst, ev_non, ev_bool, ev_int, ev_str, ev_var, ev_bin, bo_some, ev_neg, ng_some, negD_int, ev_cmp, cb_some, bl_some, ev_ite, ei_some, ev_call, cl_some, rD_val, rD_own, rD_tup, ev_bi, bf_some, ev_idx, ix_none, ix_some, cp_vi, cpt_none, cpt_val, cpt_own, cpt_tup, cv_val, cv_own, cp_vv, cp_vb, cp_vc, cp_vx, cp_vn, cp_c, cp_x, cp_s, cp_b, cp_f, ev_slc, s3_some, ev_lst, mko_some, ev_tup, tpo_some, ev_dic0, ev_comp, cm_some, evs_nil, evs_cons, cn_some, et_cmp, co_some, et_not, nt_some, et_and, an_some, et_or, or_some, et_ex, tb_some, eb_var, eb_non, eb_bool, eb_int, eb_str, eb_bin, eb_neg, eb_cmp, eb_ite, eb_call, eb_bi, eb_idx, eb_slc, eb_lst, eb_tup, eb_dic0, eb_comp, rd_zero, rd_succ, put_zero, put_succ, asg_put, toV_val, toB_val, toB_own, ownOf_, toO_own, toD_val, toD_own, toD_tup, ctoD_val, ctoD_own, cds_nil, cds_cons, cs2_some, bin_add, bin_sub, bin_mul, bin_fdiv, bin_mod, bi_len, bi_list, idx_il, idx_tup, idx_dic, add_il, rep_il, mk_nil, mk_one, mk_int, mk_dints, lst_dints, lst_nil, slc_il, slc_il0, slc_il1, cmp_eq, cmp_ne, cmp_lt, cmp_le, cmp_gt, cmp_ge, cmp_in, cmp_notin, ok_int, ok_il, eqb_int, eqb_il, lid, sto0, hp, hf4, hm4, l1, l2, hmn, hq, hq', l5, l6, l7, l9, e1, g1, laidF, laidL]
        rw [List.map_cons, fo, ha]
        simp only [Option.bind_some, hb]
      · have hfit : ¬ fits fields p = true := by simp [fits, hp]
        obtain ⟨o, h1, h2⟩ := ih G (some (.val (.int p.1))) (some (.val (.int p.2))) fun x hx => hg x (.tail _ hx)
        refine ⟨o, ?_, by rw [List.find?_cons_of_neg hfit]; exact h2⟩
        have ha : asg2 3 4 (gD p) [some (.val (il mem)), some (.val G), some (.val (il fields)), av, lv, none] = some [some (.val (il mem)), some (.val G), some (.val (il fields)), some (.val (.int p.1)), some (.val (.int p.2)), none] := rfl
        have hb : execs (Gt n) N0 100 l_law_laid_due_1 [some (.val (il mem)), some (.val G), some (.val (il fields)), some (.val (.int p.1)), some (.val (.int p.2)), none] = some (.next [some (.val (il mem)), some (.val G), some (.val (il fields)), some (.val (.int p.1)), some (.val (.int p.2)), none]) := by
          simp [l_law_laid_due_1, run_, rt_ret, rt_next, es_nil, es_cons, nx_next, nx_brk, nx_ret, ex_assign, setV_some, ex_assignO, setR_some, nxt_some, ex_take, tk_tup, tk2_own, ex_frz, fz_some, fv_some, ex_unpack, un_tup, puts_nil, puts_cons, ex_setidx, si_int, si2_some, ex_append, ap_some, ex_ite, br_some, ex_for1, f1_some, ex_for2, f2_some, ex_while, ex_ret, rv_some, ex_ret2, r2_some, ex_brk, ex_laid, ld_some, ld2_some, ld3_some, evI_range, rg_some, evI_seq, sq_some, seq_il, rng_int, evO_call, cO_some, evO_lst, evO_bin, evO_list, ow_some, own_il, own_lst, ev_non, ev_bool, ev_int, ev_str, ev_var, ev_bin, bo_some, ev_neg, ng_some, negD_int, ev_cmp, cb_some, bl_some, ev_ite, ei_some, ev_call, cl_some, rD_val, rD_own, rD_tup, ev_bi, bf_some, ev_idx, ix_none, ix_some, cp_vi, cpt_none, cpt_val, cpt_own, cpt_tup, cv_val, cv_own, cp_vv, cp_vb, cp_vc, cp_vx, cp_vn, cp_c, cp_x, cp_s, cp_b, cp_f, ev_slc, s3_some, ev_lst, mko_some, ev_tup, tpo_some, ev_dic0, ev_comp, cm_some, evs_nil, evs_cons, cn_some, et_cmp, co_some, et_not, nt_some, et_and, an_some, et_or, or_some, et_ex, tb_some, eb_var, eb_non, eb_bool, eb_int, eb_str, eb_bin, eb_neg, eb_cmp, eb_ite, eb_call, eb_bi, eb_idx, eb_slc, eb_lst, eb_tup, eb_dic0, eb_comp, rd_zero, rd_succ, put_zero, put_succ, asg_put, toV_val, toB_val, toB_own, ownOf_, toO_own, toD_val, toD_own, toD_tup, ctoD_val, ctoD_own, cds_nil, cds_cons, cs2_some, bin_add, bin_sub, bin_mul, bin_fdiv, bin_mod, bi_len, bi_list, idx_il, idx_tup, idx_dic, add_il, rep_il, mk_nil, mk_one, mk_int, mk_dints, lst_dints, lst_nil, slc_il, slc_il0, slc_il1, cmp_eq, cmp_ne, cmp_lt, cmp_le, cmp_gt, cmp_ge, cmp_in, cmp_notin, ok_int, ok_il, eqb_int, eqb_il, lid, sto0, hp, hf4]
        rw [List.map_cons, fo, ha]
        simp only [Option.bind_some, hb]
        exact h1
  obtain ⟨o, h1, h2⟩ := key gs (.lst (gs.map gD)) none none hg
  have hgl' : (gs.map gD).length ≤ 4096 := by simpa using hgl
  cases hfd : gs.find? (fits fields) with
  | some p =>
    rw [hfd] at h2
    subst h2
    simp [b_law_laid_due, vs_law_laid_due, run_, rt_ret, rt_next, es_nil, es_cons, nx_next, nx_brk, nx_ret, ex_assign, setV_some, ex_assignO, setR_some, nxt_some, ex_take, tk_tup, tk2_own, ex_frz, fz_some, fv_some, ex_unpack, un_tup, puts_nil, puts_cons, ex_setidx, si_int, si2_some, ex_append, ap_some, ex_ite, br_some, ex_for1, f1_some, ex_for2, f2_some, ex_while, ex_ret, rv_some, ex_ret2, r2_some, ex_brk, ex_laid, ld_some, ld2_some, ld3_some, evI_range, rg_some, evI_seq, sq_some, seq_il, rng_int, evO_call, cO_some, evO_lst, evO_bin, evO_list, ow_some, own_il, own_lst, ev_non, ev_bool, ev_int, ev_str, ev_var, ev_bin, bo_some, ev_neg, ng_some, negD_int, ev_cmp, cb_some, bl_some, ev_ite, ei_some, ev_call, cl_some, rD_val, rD_own, rD_tup, ev_bi, bf_some, ev_idx, ix_none, ix_some, cp_vi, cpt_none, cpt_val, cpt_own, cpt_tup, cv_val, cv_own, cp_vv, cp_vb, cp_vc, cp_vx, cp_vn, cp_c, cp_x, cp_s, cp_b, cp_f, ev_slc, s3_some, ev_lst, mko_some, ev_tup, tpo_some, ev_dic0, ev_comp, cm_some, evs_nil, evs_cons, cn_some, et_cmp, co_some, et_not, nt_some, et_and, an_some, et_or, or_some, et_ex, tb_some, eb_var, eb_non, eb_bool, eb_int, eb_str, eb_bin, eb_neg, eb_cmp, eb_ite, eb_call, eb_bi, eb_idx, eb_slc, eb_lst, eb_tup, eb_dic0, eb_comp, rd_zero, rd_succ, put_zero, put_succ, asg_put, toV_val, toB_val, toB_own, ownOf_, toO_own, toD_val, toD_own, toD_tup, ctoD_val, ctoD_own, cds_nil, cds_cons, cs2_some, bin_add, bin_sub, bin_mul, bin_fdiv, bin_mod, bi_len, bi_list, idx_il, idx_tup, idx_dic, add_il, rep_il, mk_nil, mk_one, mk_int, mk_dints, lst_dints, lst_nil, slc_il, slc_il0, slc_il1, cmp_eq, cmp_ne, cmp_lt, cmp_le, cmp_gt, cmp_ge, cmp_in, cmp_notin, ok_int, ok_il, eqb_int, eqb_il, lid, sto0, len_lst, hgl, h1]
  | none =>
    rw [hfd] at h2
    obtain ⟨σ, rfl⟩ := h2
    simp [b_law_laid_due, vs_law_laid_due, run_, rt_ret, rt_next, es_nil, es_cons, nx_next, nx_brk, nx_ret, ex_assign, setV_some, ex_assignO, setR_some, nxt_some, ex_take, tk_tup, tk2_own, ex_frz, fz_some, fv_some, ex_unpack, un_tup, puts_nil, puts_cons, ex_setidx, si_int, si2_some, ex_append, ap_some, ex_ite, br_some, ex_for1, f1_some, ex_for2, f2_some, ex_while, ex_ret, rv_some, ex_ret2, r2_some, ex_brk, ex_laid, ld_some, ld2_some, ld3_some, evI_range, rg_some, evI_seq, sq_some, seq_il, rng_int, evO_call, cO_some, evO_lst, evO_bin, evO_list, ow_some, own_il, own_lst, ev_non, ev_bool, ev_int, ev_str, ev_var, ev_bin, bo_some, ev_neg, ng_some, negD_int, ev_cmp, cb_some, bl_some, ev_ite, ei_some, ev_call, cl_some, rD_val, rD_own, rD_tup, ev_bi, bf_some, ev_idx, ix_none, ix_some, cp_vi, cpt_none, cpt_val, cpt_own, cpt_tup, cv_val, cv_own, cp_vv, cp_vb, cp_vc, cp_vx, cp_vn, cp_c, cp_x, cp_s, cp_b, cp_f, ev_slc, s3_some, ev_lst, mko_some, ev_tup, tpo_some, ev_dic0, ev_comp, cm_some, evs_nil, evs_cons, cn_some, et_cmp, co_some, et_not, nt_some, et_and, an_some, et_or, or_some, et_ex, tb_some, eb_var, eb_non, eb_bool, eb_int, eb_str, eb_bin, eb_neg, eb_cmp, eb_ite, eb_call, eb_bi, eb_idx, eb_slc, eb_lst, eb_tup, eb_dic0, eb_comp, rd_zero, rd_succ, put_zero, put_succ, asg_put, toV_val, toB_val, toB_own, ownOf_, toO_own, toD_val, toD_own, toD_tup, ctoD_val, ctoD_own, cds_nil, cds_cons, cs2_some, bin_add, bin_sub, bin_mul, bin_fdiv, bin_mod, bi_len, bi_list, idx_il, idx_tup, idx_dic, add_il, rep_il, mk_nil, mk_one, mk_int, mk_dints, lst_dints, lst_nil, slc_il, slc_il0, slc_il1, cmp_eq, cmp_ne, cmp_lt, cmp_le, cmp_gt, cmp_ge, cmp_in, cmp_notin, ok_int, ok_il, eqb_int, eqb_il, lid, sto0, len_lst, hgl, h1, laidF]

theorem al_body (n : Nat) {new fields : List Int} {mem bl nd bv : Option R} {a i x : Int} (h0 : 0 ≤ i) (h4 : i < 4096) (hget : fields[i.toNat]? = some x) (h1 : 0 ≤ a + 1 + i) (hlt : a + 1 + i < new.length) (hl : new.length ≤ 4096) :
    execs (Gt n) N0 100 l_allocate_2 [mem, some (.val (il fields)), bl, nd, bv, some (.val (.int a)), some (.own (dints new)), some (.val (.int i))]
      = some (.next [mem, some (.val (il fields)), bl, nd, bv, some (.val (.int a)), some (.own (dints (new.set (a + 1 + i).toNat x))), some (.val (.int i))]) := by
  simp [l_allocate_2, run_, rt_ret, rt_next, es_nil, es_cons, nx_next, nx_brk, nx_ret, ex_assign, setV_some, ex_assignO, setR_some, nxt_some, ex_take, tk_tup, tk2_own, ex_frz, fz_some, fv_some, ex_unpack, un_tup, puts_nil, puts_cons, ex_setidx, si_int, si2_some, ex_append, ap_some, ex_ite, br_some, ex_for1, f1_some, ex_for2, f2_some, ex_while, ex_ret, rv_some, ex_ret2, r2_some, ex_brk, ex_laid, ld_some, ld2_some, ld3_some, evI_range, rg_some, evI_seq, sq_some, seq_il, rng_int, evO_call, cO_some, evO_lst, evO_bin, evO_list, ow_some, own_il, own_lst, ev_non, ev_bool, ev_int, ev_str, ev_var, ev_bin, bo_some, ev_neg, ng_some, negD_int, ev_cmp, cb_some, bl_some, ev_ite, ei_some, ev_call, cl_some, rD_val, rD_own, rD_tup, ev_bi, bf_some, ev_idx, ix_none, ix_some, cp_vi, cpt_none, cpt_val, cpt_own, cpt_tup, cv_val, cv_own, cp_vv, cp_vb, cp_vc, cp_vx, cp_vn, cp_c, cp_x, cp_s, cp_b, cp_f, ev_slc, s3_some, ev_lst, mko_some, ev_tup, tpo_some, ev_dic0, ev_comp, cm_some, evs_nil, evs_cons, cn_some, et_cmp, co_some, et_not, nt_some, et_and, an_some, et_or, or_some, et_ex, tb_some, eb_var, eb_non, eb_bool, eb_int, eb_str, eb_bin, eb_neg, eb_cmp, eb_ite, eb_call, eb_bi, eb_idx, eb_slc, eb_lst, eb_tup, eb_dic0, eb_comp, rd_zero, rd_succ, put_zero, put_succ, asg_put, toV_val, toB_val, toB_own, ownOf_, toO_own, toD_val, toD_own, toD_tup, ctoD_val, ctoD_own, cds_nil, cds_cons, cs2_some, bin_add, bin_sub, bin_mul, bin_fdiv, bin_mod, bi_len, bi_list, idx_il, idx_tup, idx_dic, add_il, rep_il, mk_nil, mk_one, mk_int, mk_dints, lst_dints, lst_nil, slc_il, slc_il0, slc_il1, cmp_eq, cmp_ne, cmp_lt, cmp_le, cmp_gt, cmp_ge, cmp_in, cmp_notin, ok_int, ok_il, eqb_int, eqb_il, lid, sto0, h0, h4, hget, dints_len, dints_set, h1, hlt, hl]

theorem al_loop (n : Nat) {A Z fields : List Int} {mem bl nd bv : Option R} {a : Int} (ha : a + 1 = A.length) (hz : fields.length ≤ Z.length) (hN : (A ++ Z).length ≤ 4096) :
    ∃ jv, fo (asg 7) (execs (Gt n) N0 100 l_allocate_2) (rngI 0 fields.length) [mem, some (.val (il fields)), bl, nd, bv, some (.val (.int a)), some (.own (dints (A ++ Z))), none]
      = some (.next [mem, some (.val (il fields)), bl, nd, bv, some (.val (.int a)), some (.own (dints (A ++ (fields ++ Z.drop fields.length)))), jv]) := by
  have key := fo_list (a := asg 7) (b := execs (Gt n) N0 100 l_allocate_2) (fun rem σ => ∃ (j : Nat) (jv : Option R), j ≤ fields.length ∧ rem = rngI j (fields.length - j) ∧ σ = [mem, some (.val (il fields)), bl, nd, bv, some (.val (.int a)), some (.own (dints (A ++ (fields.take j ++ Z.drop j)))), jv])
    (fun o => ∃ jv, o = .next [mem, some (.val (il fields)), bl, nd, bv, some (.val (.int a)), some (.own (dints (A ++ (fields ++ Z.drop fields.length)))), jv]) ?_ ?_ (rngI 0 fields.length) _ ⟨0, none, by simp, by simp, rfl⟩
  · obtain ⟨o, h1, jv, rfl⟩ := key
    exact ⟨jv, by simpa using h1⟩
  · rintro σ ⟨j, jv, hj, hr, rfl⟩
    have : j = fields.length := by
      have := congrArg List.length hr
      simp [rngI] at this
      lia
    subst this
    exact ⟨jv, by simp⟩
  · rintro x rr σ ⟨j, jv, hj, hr, rfl⟩
    have hjl : j < fields.length := by
      have := congrArg List.length hr
      simp [rngI] at this
      lia
    obtain ⟨k, hk⟩ : ∃ k, fields.length - j = k + 1 := ⟨fields.length - j - 1, by lia⟩
    rw [hk, rngI_succ] at hr
    cases hr
    have hzj : j < Z.length := by lia
    obtain ⟨y, hy⟩ : ∃ y, fields[j]? = some y := ⟨fields[j], by simp [hjl]⟩
    have e1 : fields.take (j + 1) = fields.take j ++ [y] := by rw [List.take_add_one, hy]; rfl
    have e2 : Z.drop j = Z[j] :: Z.drop (j + 1) := List.drop_eq_getElem_cons hzj
    simp only [List.length_append] at hN
    refine ⟨_, .next [mem, some (.val (il fields)), bl, nd, bv, some (.val (.int a)), some (.own (dints (A ++ (fields.take (j + 1) ++ Z.drop (j + 1))))), some (.val (.int j))], rfl, ?_, j + 1, _, by lia, by rw [show fields.length - (j + 1) = k by lia], rfl⟩
    show execs (Gt n) N0 100 l_allocate_2 [mem, some (.val (il fields)), bl, nd, bv, some (.val (.int a)), some (.own (dints (A ++ (fields.take j ++ Z.drop j)))), some (.val (.int j))] = _
    rw [al_body n (x := y) (by lia) (by lia) (by simpa using hy) (by lia) (by simp; lia) (by simp; lia)]
    have e3 : (a + 1 + (j : Int)).toNat = (A ++ fields.take j).length := by simp; lia
    rw [e3, e1, e2, show A ++ (fields.take j ++ Z[j] :: Z.drop (j + 1)) = (A ++ fields.take j) ++ Z[j] :: Z.drop (j + 1) by simp, set_mid]
    simp

theorem al_fit (n : Nat) {mem fields : List Int} {a s : Nat} {bl : Option R} {e1 e2 e3 : Option R} (hm : mem.length < 1000) (hs : fields.length + 1 ≤ s) (ha : a + s ≤ mem.length) :
    execs (Gt n) N0 100 l_allocate_1 [some (.val (il mem)), some (.val (il fields)), bl, some (.val (.int (fields.length + 1))), some (.val (.tup [.int a, .int s, .bool true])), none, none, none]
      = some (.ret (.val (.tup [il (laidL mem fields a s), .int a]))) := by
  have hm4 : mem.length ≤ 4096 := by lia
  have hf4 : fields.length ≤ 4096 := by lia
  have hs' : (fields.length : Int) + 1 ≤ s := by lia
  have ha' : a < mem.length := by lia
  have hset : mem.set a (fields.length : Int) = (mem.take a ++ [(fields.length : Int)]) ++ mem.drop (a + 1) := by
    rw [List.set_eq_take_append_cons_drop, if_pos ha']; simp
  have hrg := rangeD_nat fields.length hf4
  obtain ⟨jv, hl⟩ := al_loop n (A := mem.take a ++ [(fields.length : Int)]) (Z := mem.drop (a + 1)) (fields := fields) (mem := some (.val (il mem))) (bl := bl) (nd := some (.val (.int (fields.length + 1)))) (bv := some (.val (.tup [.int a, .int s, .bool true]))) (a := (a : Int)) (by simp; lia) (by simp; lia) (by simp; lia)
  have hdd : List.drop fields.length (List.drop (a + 1) mem) = mem.drop (a + fields.length + 1) := by rw [List.drop_drop]; congr 1; lia
  rw [hdd] at hl
  by_cases hq : fields.length + 1 < s
  · have hq' : (fields.length : Int) + 1 < s := by lia
    have hix : ((a : Int) + (fields.length + 1)).toNat = ((mem.take a ++ [(fields.length : Int)]) ++ fields).length := by simp; lia
    have hcons : mem.drop (a + fields.length + 1) = mem[a + fields.length + 1]'(by lia) :: mem.drop (a + fields.length + 1 + 1) := List.drop_eq_getElem_cons (by lia)
    have hset2 : ∀ v : Int, ((mem.take a ++ [(fields.length : Int)]) ++ (fields ++ mem.drop (a + fields.length + 1))).set ((a : Int) + (fields.length + 1)).toNat v = mem.take a ++ ((fields.length : Int) :: fields) ++ (v :: mem.drop (a + fields.length + 2)) := fun v => by
      rw [hix, hcons, ← List.append_assoc, set_mid]; simp
    have hlen2 : ((mem.take a ++ [(fields.length : Int)]) ++ (fields ++ mem.drop (a + fields.length + 1))).length = mem.length := by simp; lia
    have hlaid : laidL mem fields a s = mem.take a ++ ((fields.length : Int) :: fields) ++ (((fields.length : Int) + 1 - s) :: mem.drop (a + fields.length + 2)) := by rw [laidL, if_pos hq]
    have g1 : (0 : Int) ≤ (a : Int) + (fields.length + 1) := by lia
    have g2 : (a : Int) + (fields.length + 1) < mem.length := by lia
    rw [hlaid]
    generalize hX : (mem.take a ++ [(fields.length : Int)]) ++ (fields ++ mem.drop (a + fields.length + 1)) = X at hl hset2 hlen2
    generalize hY : (mem.take a ++ [(fields.length : Int)]) ++ mem.drop (a + 1) = Y at hl hset
    simp [l_allocate_1, run_, rt_ret, rt_next, es_nil, es_cons, nx_next, nx_brk, nx_ret, ex_assign, setV_some, ex_assignO, setR_some, nxt_some, ex_take, tk_tup, tk2_own, ex_frz, fz_some, fv_some, ex_unpack, un_tup, puts_nil, puts_cons, ex_setidx, si_int, si2_some, ex_append, ap_some, ex_ite, br_some, ex_for1, f1_some, ex_for2, f2_some, ex_while, ex_ret, rv_some, ex_ret2, r2_some, ex_brk, ex_laid, ld_some, ld2_some, ld3_some, evI_range, rg_some, evI_seq, sq_some, seq_il, rng_int, evO_call, cO_some, evO_lst, evO_bin, evO_list, ow_some, own_il, own_lst, ev_non, ev_bool, ev_int, ev_str, ev_var, ev_bin, bo_some, ev_neg, ng_some, negD_int, ev_cmp, cb_some, bl_some, ev_ite, ei_some, ev_call, cl_some, rD_val, rD_own, rD_tup, ev_bi, bf_some, ev_idx, ix_none, ix_some, cp_vi, cpt_none, cpt_val, cpt_own, cpt_tup, cv_val, cv_own, cp_vv, cp_vb, cp_vc, cp_vx, cp_vn, cp_c, cp_x, cp_s, cp_b, cp_f, ev_slc, s3_some, ev_lst, mko_some, ev_tup, tpo_some, ev_dic0, ev_comp, cm_some, evs_nil, evs_cons, cn_some, et_cmp, co_some, et_not, nt_some, et_and, an_some, et_or, or_some, et_ex, tb_some, eb_var, eb_non, eb_bool, eb_int, eb_str, eb_bin, eb_neg, eb_cmp, eb_ite, eb_call, eb_bi, eb_idx, eb_slc, eb_lst, eb_tup, eb_dic0, eb_comp, rd_zero, rd_succ, put_zero, put_succ, asg_put, toV_val, toB_val, toB_own, ownOf_, toO_own, toD_val, toD_own, toD_tup, ctoD_val, ctoD_own, cds_nil, cds_cons, cs2_some, bin_add, bin_sub, bin_mul, bin_fdiv, bin_mod, bi_len, bi_list, idx_il, idx_tup, idx_dic, add_il, rep_il, mk_nil, mk_one, mk_int, mk_dints, lst_dints, lst_nil, slc_il, slc_il0, slc_il1, cmp_eq, cmp_ne, cmp_lt, cmp_le, cmp_gt, cmp_ge, cmp_in, cmp_notin, ok_int, ok_il, eqb_int, eqb_il, lid, sto0, hs', hm4, hf4, ha', dints_len, dints_set, hset, hrg, hl, hq', hlen2, g1, g2, hset2]
  · have hq' : ¬ (fields.length : Int) + 1 < s := by lia
    have hlaid : laidL mem fields a s = (mem.take a ++ [(fields.length : Int)]) ++ (fields ++ mem.drop (a + fields.length + 1)) := by rw [laidL, if_neg hq]; simp
    rw [hlaid]
    generalize hX : (mem.take a ++ [(fields.length : Int)]) ++ (fields ++ mem.drop (a + fields.length + 1)) = X at hl
    generalize hY : (mem.take a ++ [(fields.length : Int)]) ++ mem.drop (a + 1) = Y at hl hset
    simp [l_allocate_1, run_, rt_ret, rt_next, es_nil, es_cons, nx_next, nx_brk, nx_ret, ex_assign, setV_some, ex_assignO, setR_some, nxt_some, ex_take, tk_tup, tk2_own, ex_frz, fz_some, fv_some, ex_unpack, un_tup, puts_nil, puts_cons, ex_setidx, si_int, si2_some, ex_append, ap_some, ex_ite, br_some, ex_for1, f1_some, ex_for2, f2_some, ex_while, ex_ret, rv_some, ex_ret2, r2_some, ex_brk, ex_laid, ld_some, ld2_some, ld3_some, evI_range, rg_some, evI_seq, sq_some, seq_il, rng_int, evO_call, cO_some, evO_lst, evO_bin, evO_list, ow_some, own_il, own_lst, ev_non, ev_bool, ev_int, ev_str, ev_var, ev_bin, bo_some, ev_neg, ng_some, negD_int, ev_cmp, cb_some, bl_some, ev_ite, ei_some, ev_call, cl_some, rD_val, rD_own, rD_tup, ev_bi, bf_some, ev_idx, ix_none, ix_some, cp_vi, cpt_none, cpt_val, cpt_own, cpt_tup, cv_val, cv_own, cp_vv, cp_vb, cp_vc, cp_vx, cp_vn, cp_c, cp_x, cp_s, cp_b, cp_f, ev_slc, s3_some, ev_lst, mko_some, ev_tup, tpo_some, ev_dic0, ev_comp, cm_some, evs_nil, evs_cons, cn_some, et_cmp, co_some, et_not, nt_some, et_and, an_some, et_or, or_some, et_ex, tb_some, eb_var, eb_non, eb_bool, eb_int, eb_str, eb_bin, eb_neg, eb_cmp, eb_ite, eb_call, eb_bi, eb_idx, eb_slc, eb_lst, eb_tup, eb_dic0, eb_comp, rd_zero, rd_succ, put_zero, put_succ, asg_put, toV_val, toB_val, toB_own, ownOf_, toO_own, toD_val, toD_own, toD_tup, ctoD_val, ctoD_own, cds_nil, cds_cons, cs2_some, bin_add, bin_sub, bin_mul, bin_fdiv, bin_mod, bi_len, bi_list, idx_il, idx_tup, idx_dic, add_il, rep_il, mk_nil, mk_one, mk_int, mk_dints, lst_dints, lst_nil, slc_il, slc_il0, slc_il1, cmp_eq, cmp_ne, cmp_lt, cmp_le, cmp_gt, cmp_ge, cmp_in, cmp_notin, ok_int, ok_il, eqb_int, eqb_il, lid, sto0, hs', hm4, hf4, ha', dints_len, dints_set, hset, hrg, hl, hq']

theorem al_skip (n : Nat) {fields : List Int} {s : Nat} {a : D} {f? : Bool} {mem bl : Option R} {e1 e2 e3 : Option R} (hs : f? = true → ¬ fields.length + 1 ≤ s) :
    execs (Gt n) N0 100 l_allocate_1 [mem, some (.val (il fields)), bl, some (.val (.int (fields.length + 1))), some (.val (.tup [a, .int s, .bool f?])), e1, e2, e3]
      = some (.next [mem, some (.val (il fields)), bl, some (.val (.int (fields.length + 1))), some (.val (.tup [a, .int s, .bool f?])), e1, e2, e3]) := by
  cases f? with
  | true =>
    have h : ¬ (fields.length : Int) + 1 ≤ s := by have := hs rfl; lia
    simp [l_allocate_1, run_, rt_ret, rt_next, es_nil, es_cons, nx_next, nx_brk, nx_ret, ex_assign, setV_some, ex_assignO, setR_some, nxt_some, ex_take, tk_tup, tk2_own, ex_frz, fz_some, fv_some, ex_unpack, un_tup, puts_nil, puts_cons, ex_setidx, si_int, si2_some, ex_append, ap_some, ex_ite, br_some, ex_for1, f1_some, ex_for2, f2_some, ex_while, ex_ret, rv_some, ex_ret2, r2_some, ex_brk, ex_laid, ld_some, ld2_some, ld3_some, evI_range, rg_some, evI_seq, sq_some, seq_il, rng_int, evO_call, cO_some, evO_lst, evO_bin, evO_list, ow_some, own_il, own_lst, ev_non, ev_bool, ev_int, ev_str, ev_var, ev_bin, bo_some, ev_neg, ng_some, negD_int, ev_cmp, cb_some, bl_some, ev_ite, ei_some, ev_call, cl_some, rD_val, rD_own, rD_tup, ev_bi, bf_some, ev_idx, ix_none, ix_some, cp_vi, cpt_none, cpt_val, cpt_own, cpt_tup, cv_val, cv_own, cp_vv, cp_vb, cp_vc, cp_vx, cp_vn, cp_c, cp_x, cp_s, cp_b, cp_f, ev_slc, s3_some, ev_lst, mko_some, ev_tup, tpo_some, ev_dic0, ev_comp, cm_some, evs_nil, evs_cons, cn_some, et_cmp, co_some, et_not, nt_some, et_and, an_some, et_or, or_some, et_ex, tb_some, eb_var, eb_non, eb_bool, eb_int, eb_str, eb_bin, eb_neg, eb_cmp, eb_ite, eb_call, eb_bi, eb_idx, eb_slc, eb_lst, eb_tup, eb_dic0, eb_comp, rd_zero, rd_succ, put_zero, put_succ, asg_put, toV_val, toB_val, toB_own, ownOf_, toO_own, toD_val, toD_own, toD_tup, ctoD_val, ctoD_own, cds_nil, cds_cons, cs2_some, bin_add, bin_sub, bin_mul, bin_fdiv, bin_mod, bi_len, bi_list, idx_il, idx_tup, idx_dic, add_il, rep_il, mk_nil, mk_one, mk_int, mk_dints, lst_dints, lst_nil, slc_il, slc_il0, slc_il1, cmp_eq, cmp_ne, cmp_lt, cmp_le, cmp_gt, cmp_ge, cmp_in, cmp_notin, ok_int, ok_il, eqb_int, eqb_il, lid, sto0, h]
  | false => simp [l_allocate_1, run_, rt_ret, rt_next, es_nil, es_cons, nx_next, nx_brk, nx_ret, ex_assign, setV_some, ex_assignO, setR_some, nxt_some, ex_take, tk_tup, tk2_own, ex_frz, fz_some, fv_some, ex_unpack, un_tup, puts_nil, puts_cons, ex_setidx, si_int, si2_some, ex_append, ap_some, ex_ite, br_some, ex_for1, f1_some, ex_for2, f2_some, ex_while, ex_ret, rv_some, ex_ret2, r2_some, ex_brk, ex_laid, ld_some, ld2_some, ld3_some, evI_range, rg_some, evI_seq, sq_some, seq_il, rng_int, evO_call, cO_some, evO_lst, evO_bin, evO_list, ow_some, own_il, own_lst, ev_non, ev_bool, ev_int, ev_str, ev_var, ev_bin, bo_some, ev_neg, ng_some, negD_int, ev_cmp, cb_some, bl_some, ev_ite, ei_some, ev_call, cl_some, rD_val, rD_own, rD_tup, ev_bi, bf_some, ev_idx, ix_none, ix_some, cp_vi, cpt_none, cpt_val, cpt_own, cpt_tup, cv_val, cv_own, cp_vv, cp_vb, cp_vc, cp_vx, cp_vn, cp_c, cp_x, cp_s, cp_b, cp_f, ev_slc, s3_some, ev_lst, mko_some, ev_tup, tpo_some, ev_dic0, ev_comp, cm_some, evs_nil, evs_cons, cn_some, et_cmp, co_some, et_not, nt_some, et_and, an_some, et_or, or_some, et_ex, tb_some, eb_var, eb_non, eb_bool, eb_int, eb_str, eb_bin, eb_neg, eb_cmp, eb_ite, eb_call, eb_bi, eb_idx, eb_slc, eb_lst, eb_tup, eb_dic0, eb_comp, rd_zero, rd_succ, put_zero, put_succ, asg_put, toV_val, toB_val, toB_own, ownOf_, toO_own, toD_val, toD_own, toD_tup, ctoD_val, ctoD_own, cds_nil, cds_cons, cs2_some, bin_add, bin_sub, bin_mul, bin_fdiv, bin_mod, bi_len, bi_list, idx_il, idx_tup, idx_dic, add_il, rep_il, mk_nil, mk_one, mk_int, mk_dints, lst_dints, lst_nil, slc_il, slc_il0, slc_il1, cmp_eq, cmp_ne, cmp_lt, cmp_le, cmp_gt, cmp_ge, cmp_in, cmp_notin, ok_int, ok_il, eqb_int, eqb_il, lid, sto0]

theorem al_blocks (n : Nat) {mem fields : List Int} {bl : Option R} (hm : mem.length < 1000) : ∀ (bs : List Bk) (off : Nat) (bv : Option R), off + (flat bs).length = mem.length →
    ∃ o, fo (asg 4) (execs (Gt n) N0 100 l_allocate_1) (bks off bs) [some (.val (il mem)), some (.val (il fields)), bl, some (.val (.int (fields.length + 1))), bv, none, none, none] = some o ∧
      (match (frees off bs).find? (fits fields) with
        | some p => o = .ret (.val (laidF mem fields (some p)))
        | none => ∃ bv', o = .next [some (.val (il mem)), some (.val (il fields)), bl, some (.val (.int (fields.length + 1))), bv', none, none, none])
  | [], off, bv, h => ⟨_, rfl, bv, rfl⟩
  | b :: bs, off, bv, h => by
    rw [flat_cons_len] at h
    rw [bks, fo]
    by_cases hb : b.isFree = true ∧ fields.length + 1 ≤ b.size
    · have hs := al_fit n (mem := mem) (fields := fields) (a := off) (s := b.size) (bl := bl) (e1 := none) (e2 := none) (e3 := none) hm hb.2 (by lia)
      refine ⟨.ret (.val (laidF mem fields (some (off, b.size)))), ?_, ?_⟩
      · rw [hb.1]; simp [asg, hs, laidF]
      · rw [frees, if_pos hb.1, List.singleton_append, List.find?_cons_of_pos (by simp [fits]; lia)]
    · have hs := al_skip n (fields := fields) (s := b.size) (a := .int off) (f? := b.isFree) (mem := some (.val (il mem))) (bl := bl) (e1 := none) (e2 := none) (e3 := none) fun hf hle => hb ⟨hf, hle⟩
      obtain ⟨o, h1, h2⟩ := al_blocks n hm bs (off + b.size) (some (.val (.tup [.int off, .int b.size, .bool b.isFree]))) (by lia)
      refine ⟨o, ?_, ?_⟩
      · simp [asg, hs]; exact h1
      · have : (frees off (b :: bs)).find? (fits fields) = (frees (off + b.size) bs).find? (fits fields) := by
          rw [frees]
          split
          · rename_i hf
            rw [List.singleton_append, List.find?_cons_of_neg]
            simp [fits]
            have : ¬ fields.length + 1 ≤ b.size := fun hle => hb ⟨hf, hle⟩
            lia
          · rfl
        rw [this]; exact h2

theorem cmp_none (d : D) : cmp2 .isnone d .non = some (match d with | .non => true | _ => false) := rfl
theorem oom_text (n : Nat) {mem bl bv : Option R} {fields : List Int} (hf : fields.length ≤ 3) : ∃ d, ev (Gt n) e_alloc [mem, some (.val (il fields)), bl, some (.val (.int (fields.length + 1))), bv, none, none, none] = some d := by
  have h : fields.length = 0 ∨ fields.length = 1 ∨ fields.length = 2 ∨ fields.length = 3 := by lia
  rcases h with h | h | h | h <;> rw [h] <;> exact ⟨_, rfl⟩

theorem lt_run {bs : List Bk} {fields : List Int} (hm : (flat bs).length < 1000) (hf : fields.length ≤ 3) : Lt [il (flat bs), il fields] = some (laidF (flat bs) fields ((frees 0 bs).find? (fits fields))) := by
  have hb := blocks_run 0 bs (by lia)
  have hbl : (bks 0 bs).length ≤ 4096 := by have := bks_len bs 0; lia
  have hf4 : fields.length ≤ 4096 := by lia
  obtain ⟨o, h1, h2⟩ := al_blocks 1 (mem := flat bs) (fields := fields) (bl := some (.val (.lst (bks 0 bs)))) hm bs 0 none (by lia)
  rw [Lt, allocM]
  cases hfd : (frees 0 bs).find? (fits fields) with
  | some p =>
    rw [hfd] at h2
    subst h2
    simp [a_alloc0, a_alloc2, a_alloc3, vs_allocate, run_, rt_ret, rt_next, es_nil, es_cons, nx_next, nx_brk, nx_ret, ex_assign, setV_some, ex_assignO, setR_some, nxt_some, ex_take, tk_tup, tk2_own, ex_frz, fz_some, fv_some, ex_unpack, un_tup, puts_nil, puts_cons, ex_setidx, si_int, si2_some, ex_append, ap_some, ex_ite, br_some, ex_for1, f1_some, ex_for2, f2_some, ex_while, ex_ret, rv_some, ex_ret2, r2_some, ex_brk, ex_laid, ld_some, ld2_some, ld3_some, evI_range, rg_some, evI_seq, sq_some, seq_il, rng_int, evO_call, cO_some, evO_lst, evO_bin, evO_list, ow_some, own_il, own_lst, ev_non, ev_bool, ev_int, ev_str, ev_var, ev_bin, bo_some, ev_neg, ng_some, negD_int, ev_cmp, cb_some, bl_some, ev_ite, ei_some, ev_call, cl_some, rD_val, rD_own, rD_tup, ev_bi, bf_some, ev_idx, ix_none, ix_some, cp_vi, cpt_none, cpt_val, cpt_own, cpt_tup, cv_val, cv_own, cp_vv, cp_vb, cp_vc, cp_vx, cp_vn, cp_c, cp_x, cp_s, cp_b, cp_f, ev_slc, s3_some, ev_lst, mko_some, ev_tup, tpo_some, ev_dic0, ev_comp, cm_some, evs_nil, evs_cons, cn_some, et_cmp, co_some, et_not, nt_some, et_and, an_some, et_or, or_some, et_ex, tb_some, eb_var, eb_non, eb_bool, eb_int, eb_str, eb_bin, eb_neg, eb_cmp, eb_ite, eb_call, eb_bi, eb_idx, eb_slc, eb_lst, eb_tup, eb_dic0, eb_comp, rd_zero, rd_succ, put_zero, put_succ, asg_put, toV_val, toB_val, toB_own, ownOf_, toO_own, toD_val, toD_own, toD_tup, ctoD_val, ctoD_own, cds_nil, cds_cons, cs2_some, bin_add, bin_sub, bin_mul, bin_fdiv, bin_mod, bi_len, bi_list, idx_il, idx_tup, idx_dic, add_il, rep_il, mk_nil, mk_one, mk_int, mk_dints, lst_dints, lst_nil, slc_il, slc_il0, slc_il1, cmp_eq, cmp_ne, cmp_lt, cmp_le, cmp_gt, cmp_ge, cmp_in, cmp_notin, ok_int, ok_il, eqb_int, eqb_il, lid, sto0, hb, cmp_none, len_lst, hbl, hf4, h1, AR.toD]
  | none =>
    rw [hfd] at h2
    obtain ⟨bv', rfl⟩ := h2
    obtain ⟨d, hd⟩ := oom_text 1 (mem := some (.val (il (flat bs)))) (bl := some (.val (.lst (bks 0 bs)))) (bv := bv') hf
    simp [a_alloc0, a_alloc2, a_alloc3, vs_allocate, run_, rt_ret, rt_next, es_nil, es_cons, nx_next, nx_brk, nx_ret, ex_assign, setV_some, ex_assignO, setR_some, nxt_some, ex_take, tk_tup, tk2_own, ex_frz, fz_some, fv_some, ex_unpack, un_tup, puts_nil, puts_cons, ex_setidx, si_int, si2_some, ex_append, ap_some, ex_ite, br_some, ex_for1, f1_some, ex_for2, f2_some, ex_while, ex_ret, rv_some, ex_ret2, r2_some, ex_brk, ex_laid, ld_some, ld2_some, ld3_some, evI_range, rg_some, evI_seq, sq_some, seq_il, rng_int, evO_call, cO_some, evO_lst, evO_bin, evO_list, ow_some, own_il, own_lst, ev_non, ev_bool, ev_int, ev_str, ev_var, ev_bin, bo_some, ev_neg, ng_some, negD_int, ev_cmp, cb_some, bl_some, ev_ite, ei_some, ev_call, cl_some, rD_val, rD_own, rD_tup, ev_bi, bf_some, ev_idx, ix_none, ix_some, cp_vi, cpt_none, cpt_val, cpt_own, cpt_tup, cv_val, cv_own, cp_vv, cp_vb, cp_vc, cp_vx, cp_vn, cp_c, cp_x, cp_s, cp_b, cp_f, ev_slc, s3_some, ev_lst, mko_some, ev_tup, tpo_some, ev_dic0, ev_comp, cm_some, evs_nil, evs_cons, cn_some, et_cmp, co_some, et_not, nt_some, et_and, an_some, et_or, or_some, et_ex, tb_some, eb_var, eb_non, eb_bool, eb_int, eb_str, eb_bin, eb_neg, eb_cmp, eb_ite, eb_call, eb_bi, eb_idx, eb_slc, eb_lst, eb_tup, eb_dic0, eb_comp, rd_zero, rd_succ, put_zero, put_succ, asg_put, toV_val, toB_val, toB_own, ownOf_, toO_own, toD_val, toD_own, toD_tup, ctoD_val, ctoD_own, cds_nil, cds_cons, cs2_some, bin_add, bin_sub, bin_mul, bin_fdiv, bin_mod, bi_len, bi_list, idx_il, idx_tup, idx_dic, add_il, rep_il, mk_nil, mk_one, mk_int, mk_dints, lst_dints, lst_nil, slc_il, slc_il0, slc_il1, cmp_eq, cmp_ne, cmp_lt, cmp_le, cmp_gt, cmp_ge, cmp_in, cmp_notin, ok_int, ok_il, eqb_int, eqb_il, lid, sto0, hb, cmp_none, len_lst, hbl, hf4, h1, AR.toD, hd, laidF]
theorem lt_bad {bs : List Bk} {fields : D} (hm : (flat bs).length < 1000) : Lt [il (flat bs ++ [1]), fields] = some (.str (Str.ofString "untiled")) := by
  have hb := blocks_bad 0 bs (by lia)
  rw [Lt, allocM]
  simp [a_alloc0, a_alloc2, a_alloc3, vs_allocate, run_, rt_ret, rt_next, es_nil, es_cons, nx_next, nx_brk, nx_ret, ex_assign, setV_some, ex_assignO, setR_some, nxt_some, ex_take, tk_tup, tk2_own, ex_frz, fz_some, fv_some, ex_unpack, un_tup, puts_nil, puts_cons, ex_setidx, si_int, si2_some, ex_append, ap_some, ex_ite, br_some, ex_for1, f1_some, ex_for2, f2_some, ex_while, ex_ret, rv_some, ex_ret2, r2_some, ex_brk, ex_laid, ld_some, ld2_some, ld3_some, evI_range, rg_some, evI_seq, sq_some, seq_il, rng_int, evO_call, cO_some, evO_lst, evO_bin, evO_list, ow_some, own_il, own_lst, ev_non, ev_bool, ev_int, ev_str, ev_var, ev_bin, bo_some, ev_neg, ng_some, negD_int, ev_cmp, cb_some, bl_some, ev_ite, ei_some, ev_call, cl_some, rD_val, rD_own, rD_tup, ev_bi, bf_some, ev_idx, ix_none, ix_some, cp_vi, cpt_none, cpt_val, cpt_own, cpt_tup, cv_val, cv_own, cp_vv, cp_vb, cp_vc, cp_vx, cp_vn, cp_c, cp_x, cp_s, cp_b, cp_f, ev_slc, s3_some, ev_lst, mko_some, ev_tup, tpo_some, ev_dic0, ev_comp, cm_some, evs_nil, evs_cons, cn_some, et_cmp, co_some, et_not, nt_some, et_and, an_some, et_or, or_some, et_ex, tb_some, eb_var, eb_non, eb_bool, eb_int, eb_str, eb_bin, eb_neg, eb_cmp, eb_ite, eb_call, eb_bi, eb_idx, eb_slc, eb_lst, eb_tup, eb_dic0, eb_comp, rd_zero, rd_succ, put_zero, put_succ, asg_put, toV_val, toB_val, toB_own, ownOf_, toO_own, toD_val, toD_own, toD_tup, ctoD_val, ctoD_own, cds_nil, cds_cons, cs2_some, bin_add, bin_sub, bin_mul, bin_fdiv, bin_mod, bi_len, bi_list, idx_il, idx_tup, idx_dic, add_il, rep_il, mk_nil, mk_one, mk_int, mk_dints, lst_dints, lst_nil, slc_il, slc_il0, slc_il1, cmp_eq, cmp_ne, cmp_lt, cmp_le, cmp_gt, cmp_ge, cmp_in, cmp_notin, ok_int, ok_il, eqb_int, eqb_il, lid, sto0, hb, cmp_none, AR.toD]
end Mine

set_option maxRecDepth 10000
set_option linter.unusedSimpArgs false
set_option linter.unusedVariables false
namespace Mine
open PySem

theorem cell_run (n : Nat) (xs : List Int) (i : Int) (h : xs.length ≤ 63) (hi : 0 ≤ i) : Gt (n + 1) "_law_cell" [il xs, .int i] = some (.val (.int (xs.getD i.toNat 0))) := by
  have := law_cell_run n xs i.toNat h
  rwa [Int.toNat_of_nonneg hi] at this

theorem word_run (n : Nat) (c : Int) (sp : List Int) (hs : ∀ s ∈ sp, 0 ≤ s ∧ s < 1000) (hl : sp.length < 1000) : ∃ w, Gt (n + 1) "_law_word" [.int c, il sp] = some (.val (.int w)) ∧ (w % 2 = 1 → w / 2 ∈ sp) := by
  rw [gt_run (b := b_law_word) (vs := vs_law_word) rfl rfl]
  have hl4 : sp.length ≤ 4096 := by lia
  by_cases h : c % 2 = 1 ∧ 0 < sp.length
  · have h0 : 0 ≤ c / 2 % sp.length := Int.emod_nonneg _ (by lia)
    have h1 : c / 2 % sp.length < sp.length := Int.emod_lt_of_pos _ (by lia)
    have h4 : c / 2 % sp.length < 4096 := by lia
    have hlt : (c / 2 % sp.length).toNat < sp.length := by lia
    obtain ⟨s, hsx⟩ : ∃ s, sp[(c / 2 % sp.length).toNat]? = some s := ⟨sp[(c / 2 % sp.length).toNat], by simp [hlt]⟩
    have hm := List.mem_of_getElem? hsx
    have hb := hs s hm
    have hn : s.natAbs < 1000000 := by lia
    have hpos : (0 : Int) < sp.length := by lia
    refine ⟨2 * s + 1, ?_, fun _ => by rw [show (2 * s + 1) / 2 = s by lia]; exact hm⟩
    have h2 : 0 < sp.length := h.2
    obtain ⟨_, hsx2⟩ := List.getElem?_eq_some_iff.mp hsx
    simp [b_law_word, vs_law_word, run_, rt_ret, rt_next, es_nil, es_cons, nx_next, nx_brk, nx_ret, ex_assign, setV_some, ex_assignO, setR_some, nxt_some, ex_take, tk_tup, tk2_own, ex_frz, fz_some, fv_some, ex_unpack, un_tup, puts_nil, puts_cons, ex_setidx, si_int, si2_some, ex_append, ap_some, ex_ite, br_some, ex_for1, f1_some, ex_for2, f2_some, ex_while, ex_ret, rv_some, ex_ret2, r2_some, ex_brk, ex_laid, ld_some, ld2_some, ld3_some, evI_range, rg_some, evI_seq, sq_some, seq_il, rng_int, evO_call, cO_some, evO_lst, evO_bin, evO_list, ow_some, own_il, own_lst, ev_non, ev_bool, ev_int, ev_str, ev_var, ev_bin, bo_some, ev_neg, ng_some, negD_int, ev_cmp, cb_some, bl_some, ev_ite, ei_some, ev_call, cl_some, rD_val, rD_own, rD_tup, ev_bi, bf_some, ev_idx, ix_none, ix_some, cp_vi, cpt_none, cpt_val, cpt_own, cpt_tup, cv_val, cv_own, cp_vv, cp_vb, cp_vc, cp_vx, cp_vn, cp_c, cp_x, cp_s, cp_b, cp_f, ev_slc, s3_some, ev_lst, mko_some, ev_tup, tpo_some, ev_dic0, ev_comp, cm_some, evs_nil, evs_cons, cn_some, et_cmp, co_some, et_not, nt_some, et_and, an_some, et_or, or_some, et_ex, tb_some, eb_var, eb_non, eb_bool, eb_int, eb_str, eb_bin, eb_neg, eb_cmp, eb_ite, eb_call, eb_bi, eb_idx, eb_slc, eb_lst, eb_tup, eb_dic0, eb_comp, rd_zero, rd_succ, put_zero, put_succ, asg_put, toV_val, toB_val, toB_own, ownOf_, toO_own, toD_val, toD_own, toD_tup, ctoD_val, ctoD_own, cds_nil, cds_cons, cs2_some, bin_add, bin_sub, bin_mul, bin_fdiv, bin_mod, bi_len, bi_list, idx_il, idx_tup, idx_dic, add_il, rep_il, mk_nil, mk_one, mk_int, mk_dints, lst_dints, lst_nil, slc_il, slc_il0, slc_il1, cmp_eq, cmp_ne, cmp_lt, cmp_le, cmp_gt, cmp_ge, cmp_in, cmp_notin, ok_int, ok_il, eqb_int, eqb_il, lid, sto0, h.1, hl4, h2, h0, h4, hsx, hsx2, hn]
  · refine ⟨2 * (c / 2 % 16), ?_, fun h => by lia⟩
    have hn : (c / 2 % 16).natAbs < 1000000 := by lia
    by_cases h1 : c % 2 = 1
    · have h2 : ¬ 0 < sp.length := fun q => h ⟨h1, q⟩
      have h3 : sp = [] := List.eq_nil_of_length_eq_zero (by lia)
      subst h3
      simp [b_law_word, vs_law_word, run_, rt_ret, rt_next, es_nil, es_cons, nx_next, nx_brk, nx_ret, ex_assign, setV_some, ex_assignO, setR_some, nxt_some, ex_take, tk_tup, tk2_own, ex_frz, fz_some, fv_some, ex_unpack, un_tup, puts_nil, puts_cons, ex_setidx, si_int, si2_some, ex_append, ap_some, ex_ite, br_some, ex_for1, f1_some, ex_for2, f2_some, ex_while, ex_ret, rv_some, ex_ret2, r2_some, ex_brk, ex_laid, ld_some, ld2_some, ld3_some, evI_range, rg_some, evI_seq, sq_some, seq_il, rng_int, evO_call, cO_some, evO_lst, evO_bin, evO_list, ow_some, own_il, own_lst, ev_non, ev_bool, ev_int, ev_str, ev_var, ev_bin, bo_some, ev_neg, ng_some, negD_int, ev_cmp, cb_some, bl_some, ev_ite, ei_some, ev_call, cl_some, rD_val, rD_own, rD_tup, ev_bi, bf_some, ev_idx, ix_none, ix_some, cp_vi, cpt_none, cpt_val, cpt_own, cpt_tup, cv_val, cv_own, cp_vv, cp_vb, cp_vc, cp_vx, cp_vn, cp_c, cp_x, cp_s, cp_b, cp_f, ev_slc, s3_some, ev_lst, mko_some, ev_tup, tpo_some, ev_dic0, ev_comp, cm_some, evs_nil, evs_cons, cn_some, et_cmp, co_some, et_not, nt_some, et_and, an_some, et_or, or_some, et_ex, tb_some, eb_var, eb_non, eb_bool, eb_int, eb_str, eb_bin, eb_neg, eb_cmp, eb_ite, eb_call, eb_bi, eb_idx, eb_slc, eb_lst, eb_tup, eb_dic0, eb_comp, rd_zero, rd_succ, put_zero, put_succ, asg_put, toV_val, toB_val, toB_own, ownOf_, toO_own, toD_val, toD_own, toD_tup, ctoD_val, ctoD_own, cds_nil, cds_cons, cs2_some, bin_add, bin_sub, bin_mul, bin_fdiv, bin_mod, bi_len, bi_list, idx_il, idx_tup, idx_dic, add_il, rep_il, mk_nil, mk_one, mk_int, mk_dints, lst_dints, lst_nil, slc_il, slc_il0, slc_il1, cmp_eq, cmp_ne, cmp_lt, cmp_le, cmp_gt, cmp_ge, cmp_in, cmp_notin, ok_int, ok_il, eqb_int, eqb_il, lid, sto0, h1, hn]
    · simp [b_law_word, vs_law_word, run_, rt_ret, rt_next, es_nil, es_cons, nx_next, nx_brk, nx_ret, ex_assign, setV_some, ex_assignO, setR_some, nxt_some, ex_take, tk_tup, tk2_own, ex_frz, fz_some, fv_some, ex_unpack, un_tup, puts_nil, puts_cons, ex_setidx, si_int, si2_some, ex_append, ap_some, ex_ite, br_some, ex_for1, f1_some, ex_for2, f2_some, ex_while, ex_ret, rv_some, ex_ret2, r2_some, ex_brk, ex_laid, ld_some, ld2_some, ld3_some, evI_range, rg_some, evI_seq, sq_some, seq_il, rng_int, evO_call, cO_some, evO_lst, evO_bin, evO_list, ow_some, own_il, own_lst, ev_non, ev_bool, ev_int, ev_str, ev_var, ev_bin, bo_some, ev_neg, ng_some, negD_int, ev_cmp, cb_some, bl_some, ev_ite, ei_some, ev_call, cl_some, rD_val, rD_own, rD_tup, ev_bi, bf_some, ev_idx, ix_none, ix_some, cp_vi, cpt_none, cpt_val, cpt_own, cpt_tup, cv_val, cv_own, cp_vv, cp_vb, cp_vc, cp_vx, cp_vn, cp_c, cp_x, cp_s, cp_b, cp_f, ev_slc, s3_some, ev_lst, mko_some, ev_tup, tpo_some, ev_dic0, ev_comp, cm_some, evs_nil, evs_cons, cn_some, et_cmp, co_some, et_not, nt_some, et_and, an_some, et_or, or_some, et_ex, tb_some, eb_var, eb_non, eb_bool, eb_int, eb_str, eb_bin, eb_neg, eb_cmp, eb_ite, eb_call, eb_bi, eb_idx, eb_slc, eb_lst, eb_tup, eb_dic0, eb_comp, rd_zero, rd_succ, put_zero, put_succ, asg_put, toV_val, toB_val, toB_own, ownOf_, toO_own, toD_val, toD_own, toD_tup, ctoD_val, ctoD_own, cds_nil, cds_cons, cs2_some, bin_add, bin_sub, bin_mul, bin_fdiv, bin_mod, bi_len, bi_list, idx_il, idx_tup, idx_dic, add_il, rep_il, mk_nil, mk_one, mk_int, mk_dints, lst_dints, lst_nil, slc_il, slc_il0, slc_il1, cmp_eq, cmp_ne, cmp_lt, cmp_le, cmp_gt, cmp_ge, cmp_in, cmp_notin, ok_int, ok_il, eqb_int, eqb_il, lid, sto0, h1, hn]

theorem mapO_ex {f : D → Option D} {V : Int → Prop} : ∀ (xs : List D), (∀ x ∈ xs, ∃ w, f x = some (.int w) ∧ V w) → ∃ ws, mapO f xs = some (dints ws) ∧ ws.length = xs.length ∧ ∀ w ∈ ws, V w
  | [], _ => ⟨[], rfl, rfl, fun _ h => nomatch h⟩
  | x :: xs, h => by
    obtain ⟨w, h1, h2⟩ := h x (.head _)
    obtain ⟨ws, h3, h4, h5⟩ := mapO_ex xs fun y hy => h y (.tail _ hy)
    refine ⟨w :: ws, by rw [mapO_cons, h1, h3]; rfl, by simp [h4], fun y hy => ?_⟩
    rcases List.mem_cons.mp hy with rfl | hy
    · exact h2
    · exact h5 y hy

noncomputable def hsz (h : Int) : Nat := if h < 0 then (-h).toNat else (h + 1).toNat
noncomputable def tot : List Int → Nat
  | [] => 0
  | h :: s => hsz h + tot s
noncomputable def spotsOf : Nat → List Int → List Int
  | _, [] => []
  | off, h :: s => if h < 0 then spotsOf (off + hsz h) s else (off : Int) :: spotsOf (off + hsz h) s
noncomputable def Bk.shp : Bk → Int
  | .free n => -((n : Int) + 1)
  | .obj ws => ws.length
noncomputable def oks : Nat → List Bk → List Int
  | _, [] => []
  | off, .free n :: bs => oks (off + (n + 1)) bs
  | off, .obj ws :: bs => (off : Int) :: oks (off + (ws.length + 1)) bs
noncomputable def ods : List Bk → List D
  | [] => []
  | .free _ :: bs => ods bs
  | .obj ws :: bs => il ws :: ods bs

theorem Bk.hsz (b : Bk) : Mine.hsz b.shp = b.size := by cases b <;> simp [Mine.hsz, Bk.shp, Bk.size] <;> lia
theorem tot_app : ∀ a b : List Int, tot (a ++ b) = tot a + tot b
  | [], b => by simp [tot]
  | x :: a, b => by simp [tot, tot_app a b]; lia
theorem spots_app : ∀ (a : List Int) (off : Nat) (h : Int), spotsOf off (a ++ [h]) = spotsOf off a ++ (if h < 0 then [] else [((off + tot a : Nat) : Int)])
  | [], off, h => by simp [spotsOf, tot]
  | x :: a, off, h => by
    have := spots_app a (off + hsz x) h
    simp only [List.cons_append, spotsOf, this, tot]
    split <;> simp <;> split <;> simp <;> lia
theorem oks_app : ∀ (a : List Bk) (off : Nat) (b : Bk), oks off (a ++ [b]) = oks off a ++ (if b.isFree then [] else [((off + (flat a).length : Nat) : Int)])
  | [], off, b => by cases b <;> simp [oks, flat, Bk.isFree]
  | .free n :: a, off, b => by
    have := oks_app a (off + (n + 1)) b
    simp only [List.cons_append, oks, this, flat_cons_len, Bk.size]
    split <;> simp <;> lia
  | .obj ws :: a, off, b => by
    have := oks_app a (off + (ws.length + 1)) b
    simp only [List.cons_append, oks, this, flat_cons_len, Bk.size]
    split <;> simp <;> lia
theorem ods_app : ∀ (a b : List Bk), ods (a ++ b) = ods a ++ ods b
  | [], b => rfl
  | .free n :: a, b => by simp [ods, ods_app a b]
  | .obj ws :: a, b => by simp [ods, ods_app a b]
theorem oks_len : ∀ (a : List Bk) (off : Nat), (oks off a).length = (ods a).length ∧ (oks off a).length ≤ a.length
  | [], off => by simp [oks, ods]
  | .free n :: a, off => by have := oks_len a (off + (n + 1)); simp [oks, ods, this]; lia
  | .obj ws :: a, off => by have := oks_len a (off + (ws.length + 1)); simp [oks, ods, this]; lia
theorem oks_spots : ∀ (bs : List Bk) (off : Nat), oks off bs = spotsOf off (bs.map Bk.shp)
  | [], off => rfl
  | .free n :: bs, off => by
    have := oks_spots bs (off + (n + 1))
    have h : Mine.hsz (Bk.free n).shp = n + 1 := (Bk.free n).hsz
    have h2 : (Bk.free n).shp < 0 := by simp only [Bk.shp]; lia
    simp [oks, spotsOf, this, h, h2]
  | .obj ws :: bs, off => by
    have := oks_spots bs (off + (ws.length + 1))
    have h : Mine.hsz (Bk.obj ws).shp = ws.length + 1 := (Bk.obj ws).hsz
    have h2 : ¬ (Bk.obj ws).shp < 0 := by simp [Bk.shp]
    simp [oks, spotsOf, this, h, h2]
theorem tot_flat : ∀ bs : List Bk, tot (bs.map Bk.shp) = (flat bs).length
  | [] => rfl
  | b :: bs => by rw [List.map_cons, tot, tot_flat bs, flat_cons_len, b.hsz]
theorem spots_lt : ∀ (s : List Int) (off : Nat), ∀ a ∈ spotsOf off s, (off : Int) ≤ a ∧ a < off + tot s
  | h :: s, off, a, ha => by
    rw [spotsOf] at ha
    have hp : 0 < hsz h := by unfold hsz; split <;> lia
    have ih := spots_lt s (off + hsz h) a
    rw [tot]
    split at ha
    · have := ih ha; lia
    · rcases List.mem_cons.mp ha with rfl | ha
      · lia
      · have := ih ha; lia
theorem spots_sorted : ∀ (s : List Int) (off : Nat), (spotsOf off s).Pairwise (· < ·)
  | [], _ => List.Pairwise.nil
  | h :: s, off => by
    rw [spotsOf]
    have hp : 0 < hsz h := by unfold hsz; split <;> lia
    split
    · exact spots_sorted s _
    · exact List.Pairwise.cons (fun a ha => by have := spots_lt s _ a ha; lia) (spots_sorted s _)
theorem spots_len : ∀ (s : List Int) (off : Nat), (spotsOf off s).length ≤ s.length
  | [], _ => by simp [spotsOf]
  | h :: s, off => by
    have := spots_len s (off + hsz h)
    rw [spotsOf]
    split <;> simp <;> lia
theorem tot_le : ∀ s : List Int, (∀ h ∈ s, -4 ≤ h ∧ h ≤ 3) → tot s ≤ 4 * s.length
  | [], _ => by simp [tot]
  | h :: s, hh => by
    have := tot_le s fun x hx => hh x (.tail _ hx)
    have := hh h (.head _)
    have : hsz h ≤ 4 := by unfold hsz; split <;> lia
    simp [tot]; lia
theorem look_at : ∀ {bs : List Bk} {off : Nat} {a : Int} {ws : List Int}, At off bs a ws → look a (oks off bs) (ods bs) = some (il ws)
  | .free n :: bs, off, a, ws, .inl ⟨_, h⟩ => by cases h
  | .free n :: bs, off, a, ws, .inr h => by rw [oks, ods]; exact look_at h
  | .obj us :: bs, off, a, ws, .inl ⟨h1, h2⟩ => by cases h2; rw [oks, ods, look_cons, if_pos h1.symm]
  | .obj us :: bs, off, a, ws, .inr h => by
    have hg := h.ge
    have : ¬ (off : Int) = a := by simp [Bk.size] at hg; lia
    rw [oks, ods, look_cons, if_neg this]; exact look_at h
theorem at_oks : ∀ {bs : List Bk} {off : Nat} {a : Int}, a ∈ oks off bs → ∃ ws, At off bs a ws
  | .free n :: bs, off, a, h => by rw [oks] at h; obtain ⟨ws, h⟩ := at_oks h; exact ⟨ws, .inr h⟩
  | .obj us :: bs, off, a, h => by
    rw [oks] at h
    rcases List.mem_cons.mp h with rfl | h
    · exact ⟨us, .inl ⟨rfl, rfl⟩⟩
    · obtain ⟨ws, h⟩ := at_oks h; exact ⟨ws, .inr h⟩

noncomputable def Val (sp : List Int) (w : Int) : Prop := w % 2 = 1 → w / 2 ∈ sp
noncomputable def BkVal (sp : List Int) : Bk → Prop
  | .free _ => True
  | .obj ws => ∀ w ∈ ws, Val sp w
theorem at_val {sp : List Int} : ∀ {bs : List Bk} {off : Nat} {a : Int} {ws : List Int}, (∀ b ∈ bs, BkVal sp b) → At off bs a ws → ∀ w ∈ ws, Val sp w
  | b :: bs, off, a, ws, h, .inl ⟨_, e⟩ => by subst e; exact h _ (.head _)
  | b :: bs, off, a, ws, h, .inr h' => at_val (fun x hx => h x (.tail _ hx)) h'

theorem built_one (n : Nat) {xs S : List Int} (hx : xs.length ≤ 63) (hS : S.length < 10) {iv : Nat} {e5 e6 e7 e8 e9 kv e11 : Option R} :
    ∃ h kv', (-4 ≤ h ∧ h ≤ 3) ∧ execs (Gt (n + 1)) N0 100 l_law_built_1 [some (.val (il xs)), some (.own (dints S)), some (.own (dints (spotsOf 0 S))), some (.val (.int (tot S))), some (.val (.int iv)), e5, e6, e7, e8, e9, kv, e11]
      = some (.next [some (.val (il xs)), some (.own (dints (S ++ [h]))), some (.own (dints (spotsOf 0 (S ++ [h])))), some (.val (.int (tot (S ++ [h])))), some (.val (.int iv)), e5, e6, e7, e8, e9, kv', e11]) := by
  have hc := cell_run n xs (6 + (iv : Int)) hx (by lia)
  generalize hcv : xs.getD (6 + (iv : Int)).toNat 0 = c at hc
  have k0 : 0 ≤ c % 12 := by lia
  have k1 : c % 12 < 12 := by lia
  have hS4 : S.length < 4096 := by lia
  have hsl : (spotsOf 0 S).length < 4096 := by have := spots_len S 0; lia
  by_cases hk : c % 12 < 4
  · refine ⟨-1 - c % 12, some (.val (.int (c % 12))), by lia, ?_⟩
    have h1 : -1 - c % 12 < 0 := by lia
    have h2 : ((tot (S ++ [-1 - c % 12]) : Nat) : Int) = tot S + c % 12 + 1 := by
      rw [tot_app]; simp [tot, hsz, h1]; lia
    have h3 : spotsOf 0 (S ++ [-1 - c % 12]) = spotsOf 0 S := by rw [spots_app, if_pos h1]; simp
    simp [l_law_built_1, run_, rt_ret, rt_next, es_nil, es_cons, nx_next, nx_brk, nx_ret, ex_assign, setV_some, ex_assignO, setR_some, nxt_some, ex_take, tk_tup, tk2_own, ex_frz, fz_some, fv_some, ex_unpack, un_tup, puts_nil, puts_cons, ex_setidx, si_int, si2_some, ex_append, ap_some, ex_ite, br_some, ex_for1, f1_some, ex_for2, f2_some, ex_while, ex_ret, rv_some, ex_ret2, r2_some, ex_brk, ex_laid, ld_some, ld2_some, ld3_some, evI_range, rg_some, evI_seq, sq_some, seq_il, rng_int, evO_call, cO_some, evO_lst, evO_bin, evO_list, ow_some, own_il, own_lst, ev_non, ev_bool, ev_int, ev_str, ev_var, ev_bin, bo_some, ev_neg, ng_some, negD_int, ev_cmp, cb_some, bl_some, ev_ite, ei_some, ev_call, cl_some, rD_val, rD_own, rD_tup, ev_bi, bf_some, ev_idx, ix_none, ix_some, cp_vi, cpt_none, cpt_val, cpt_own, cpt_tup, cv_val, cv_own, cp_vv, cp_vb, cp_vc, cp_vx, cp_vn, cp_c, cp_x, cp_s, cp_b, cp_f, ev_slc, s3_some, ev_lst, mko_some, ev_tup, tpo_some, ev_dic0, ev_comp, cm_some, evs_nil, evs_cons, cn_some, et_cmp, co_some, et_not, nt_some, et_and, an_some, et_or, or_some, et_ex, tb_some, eb_var, eb_non, eb_bool, eb_int, eb_str, eb_bin, eb_neg, eb_cmp, eb_ite, eb_call, eb_bi, eb_idx, eb_slc, eb_lst, eb_tup, eb_dic0, eb_comp, rd_zero, rd_succ, put_zero, put_succ, asg_put, toV_val, toB_val, toB_own, ownOf_, toO_own, toD_val, toD_own, toD_tup, ctoD_val, ctoD_own, cds_nil, cds_cons, cs2_some, bin_add, bin_sub, bin_mul, bin_fdiv, bin_mod, bi_len, bi_list, idx_il, idx_tup, idx_dic, add_il, rep_il, mk_nil, mk_one, mk_int, mk_dints, lst_dints, lst_nil, slc_il, slc_il0, slc_il1, cmp_eq, cmp_ne, cmp_lt, cmp_le, cmp_gt, cmp_ge, cmp_in, cmp_notin, ok_int, ok_il, eqb_int, eqb_il, lid, sto0, hc, hk, dints_len, hS4, dints_app, h2, h3]
  · have hq : c % 12 % 4 = c % 4 := by lia
    have h1 : ¬ c % 4 < 0 := by lia
    have hb : -4 ≤ c % 4 ∧ c % 4 ≤ 3 := by lia
    generalize c % 4 = q at hq h1 hb
    refine ⟨q, some (.val (.int (c % 12))), hb, ?_⟩
    have h2 : ((tot (S ++ [q]) : Nat) : Int) = tot S + q + 1 := by
      rw [tot_app]; simp [tot, hsz, h1]; lia
    have h3 : spotsOf 0 (S ++ [q]) = spotsOf 0 S ++ [(tot S : Int)] := by rw [spots_app, if_neg h1]; simp
    have hq2 : c % 4 = q := by lia
    simp [l_law_built_1, run_, rt_ret, rt_next, es_nil, es_cons, nx_next, nx_brk, nx_ret, ex_assign, setV_some, ex_assignO, setR_some, nxt_some, ex_take, tk_tup, tk2_own, ex_frz, fz_some, fv_some, ex_unpack, un_tup, puts_nil, puts_cons, ex_setidx, si_int, si2_some, ex_append, ap_some, ex_ite, br_some, ex_for1, f1_some, ex_for2, f2_some, ex_while, ex_ret, rv_some, ex_ret2, r2_some, ex_brk, ex_laid, ld_some, ld2_some, ld3_some, evI_range, rg_some, evI_seq, sq_some, seq_il, rng_int, evO_call, cO_some, evO_lst, evO_bin, evO_list, ow_some, own_il, own_lst, ev_non, ev_bool, ev_int, ev_str, ev_var, ev_bin, bo_some, ev_neg, ng_some, negD_int, ev_cmp, cb_some, bl_some, ev_ite, ei_some, ev_call, cl_some, rD_val, rD_own, rD_tup, ev_bi, bf_some, ev_idx, ix_none, ix_some, cp_vi, cpt_none, cpt_val, cpt_own, cpt_tup, cv_val, cv_own, cp_vv, cp_vb, cp_vc, cp_vx, cp_vn, cp_c, cp_x, cp_s, cp_b, cp_f, ev_slc, s3_some, ev_lst, mko_some, ev_tup, tpo_some, ev_dic0, ev_comp, cm_some, evs_nil, evs_cons, cn_some, et_cmp, co_some, et_not, nt_some, et_and, an_some, et_or, or_some, et_ex, tb_some, eb_var, eb_non, eb_bool, eb_int, eb_str, eb_bin, eb_neg, eb_cmp, eb_ite, eb_call, eb_bi, eb_idx, eb_slc, eb_lst, eb_tup, eb_dic0, eb_comp, rd_zero, rd_succ, put_zero, put_succ, asg_put, toV_val, toB_val, toB_own, ownOf_, toO_own, toD_val, toD_own, toD_tup, ctoD_val, ctoD_own, cds_nil, cds_cons, cs2_some, bin_add, bin_sub, bin_mul, bin_fdiv, bin_mod, bi_len, bi_list, idx_il, idx_tup, idx_dic, add_il, rep_il, mk_nil, mk_one, mk_int, mk_dints, lst_dints, lst_nil, slc_il, slc_il0, slc_il1, cmp_eq, cmp_ne, cmp_lt, cmp_le, cmp_gt, cmp_ge, cmp_in, cmp_notin, ok_int, ok_il, eqb_int, eqb_il, lid, sto0, hc, hk, dints_len, hS4, hsl, dints_app, h2, h3, hq2]

theorem built_shapes (n : Nat) {xs : List Int} (hx : xs.length ≤ 63) (m : Nat) (hm : m ≤ 6) :
    ∃ S iv kv, S.length = m ∧ (∀ h ∈ S, -4 ≤ h ∧ h ≤ 3) ∧ fo (asg 4) (execs (Gt (n + 1)) N0 100 l_law_built_1) (rngI 0 m) [some (.val (il xs)), some (.own (dints [])), some (.own (dints [])), some (.val (.int 0)), none, none, none, none, none, none, none, none]
      = some (.next [some (.val (il xs)), some (.own (dints S)), some (.own (dints (spotsOf 0 S))), some (.val (.int (tot S))), iv, none, none, none, none, none, kv, none]) := by
  have key := fo_list (a := asg 4) (b := execs (Gt (n + 1)) N0 100 l_law_built_1) (fun rem σ => ∃ (S : List Int) (iv kv : Option R), S.length ≤ m ∧ rem = rngI S.length (m - S.length) ∧ (∀ h ∈ S, -4 ≤ h ∧ h ≤ 3) ∧ σ = [some (.val (il xs)), some (.own (dints S)), some (.own (dints (spotsOf 0 S))), some (.val (.int (tot S))), iv, none, none, none, none, none, kv, none])
    (fun o => ∃ S iv kv, S.length = m ∧ (∀ h ∈ S, -4 ≤ h ∧ h ≤ 3) ∧ o = .next [some (.val (il xs)), some (.own (dints S)), some (.own (dints (spotsOf 0 S))), some (.val (.int (tot S))), iv, none, none, none, none, none, kv, none]) ?_ ?_ (rngI 0 m) _ ⟨[], none, none, by simp, by simp, fun _ h => (nomatch h), rfl⟩
  · obtain ⟨o, h1, S, iv, kv, h2, h3, rfl⟩ := key
    exact ⟨S, iv, kv, h2, h3, h1⟩
  · rintro σ ⟨S, iv, kv, hl, hr, hh, rfl⟩
    have : S.length = m := by
      have := congrArg List.length hr
      simp [rngI] at this
      lia
    exact ⟨S, iv, kv, this, hh, rfl⟩
  · rintro x rr σ ⟨S, iv, kv, hl, hr, hh, rfl⟩
    have hlt : S.length < m := by
      have := congrArg List.length hr
      simp [rngI] at this
      lia
    obtain ⟨j, hj⟩ : ∃ j, m - S.length = j + 1 := ⟨m - S.length - 1, by lia⟩
    rw [hj, rngI_succ] at hr
    cases hr
    obtain ⟨h, kv', hb, hs⟩ := built_one n hx (S := S) (by lia) (iv := S.length) (e5 := none) (e6 := none) (e7 := none) (e8 := none) (e9 := none) (kv := kv) (e11 := none)
    refine ⟨_, .next _, rfl, hs, S ++ [h], _, kv', by simp; lia, by simp; congr 1; lia, fun x hx => ?_, rfl⟩
    rcases List.mem_append.mp hx with hx | hx
    · exact hh x hx
    · rw [List.mem_singleton.mp hx]; exact hb

theorem words_ex (n : Nat) {xs sp : List Int} (hx : xs.length ≤ 63) (hsp : ∀ s ∈ sp, 0 ≤ s ∧ s < 1000) (hl : sp.length < 1000) {c : E} {base : Nat} {σ : Sto} (hσ : σ.length = 12) (h0 : rd σ 0 = some (.val (il xs))) (h2 : rd σ 2 = some (.val (il sp))) (hc : ∀ x, ev (Gt (n + 1)) c (σ ++ [some (.val x)]) = some (.int base)) (m : Nat) :
    ∃ ws, mapO (elt (Gt (n + 1)) (.call "_law_word" (.cons (.call "_law_cell" (.cons (.var 0) (.cons (.bin .add c (.var 12)) .nil))) (.cons (.var 2) .nil))) σ) (rngI 0 m) = some (dints ws) ∧ ws.length = m ∧ ∀ w ∈ ws, Val sp w := by
  have hb : ∀ e, (c = .var e) → True := fun _ _ => trivial
  obtain ⟨ws, h1, h3, h4⟩ := mapO_ex (f := elt (Gt (n + 1)) (.call "_law_word" (.cons (.call "_law_cell" (.cons (.var 0) (.cons (.bin .add c (.var 12)) .nil))) (.cons (.var 2) .nil))) σ) (V := Val sp) (rngI 0 m) (fun x hx' => by
    obtain ⟨j, _, rfl⟩ := List.mem_map.mp hx'
    obtain ⟨w, hw, hv⟩ := word_run n (xs.getD ((base : Int) + (j : Int)).toNat 0) sp hsp hl
    refine ⟨w, ?_, hv⟩
    have hcl := cell_run n xs ((base : Int) + (j : Int)) hx (by lia)
    have r0 : rd (σ ++ [some (.val (.int (j : Int)))]) 0 = some (.val (il xs)) := by unfold rd at h0 ⊢; rw [List.getElem?_append_left (by lia)]; exact h0
    have r2 : rd (σ ++ [some (.val (.int (j : Int)))]) 2 = some (.val (il sp)) := by unfold rd at h2 ⊢; rw [List.getElem?_append_left (by lia)]; exact h2
    have r12 : rd (σ ++ [some (.val (.int (j : Int)))]) 12 = some (.val (.int (j : Int))) := by unfold rd; rw [List.getElem?_append_right (by lia)]; simp [hσ]
    have hcc : evB (Gt (n + 1)) c (σ ++ [some (.val (.int (j : Int)))]) = some (.int base) := by
      have := hc (.int (j : Int))
      cases c with
      | var i =>
        rw [ev_var] at this
        rw [eb_var]
        revert this
        cases rd (σ ++ [some (.val (.int (j : Int)))]) i with
        | none => intro h; cases h
        | some r => cases r <;> intro h <;> first | exact h | cases h
      | _ => exact this
    rw [List.getD_eq_getElem?_getD] at hw
    simp [elt, run_, rt_ret, rt_next, es_nil, es_cons, nx_next, nx_brk, nx_ret, ex_assign, setV_some, ex_assignO, setR_some, nxt_some, ex_take, tk_tup, tk2_own, ex_frz, fz_some, fv_some, ex_unpack, un_tup, puts_nil, puts_cons, ex_setidx, si_int, si2_some, ex_append, ap_some, ex_ite, br_some, ex_for1, f1_some, ex_for2, f2_some, ex_while, ex_ret, rv_some, ex_ret2, r2_some, ex_brk, ex_laid, ld_some, ld2_some, ld3_some, evI_range, rg_some, evI_seq, sq_some, seq_il, rng_int, evO_call, cO_some, evO_lst, evO_bin, evO_list, ow_some, own_il, own_lst, ev_non, ev_bool, ev_int, ev_str, ev_var, ev_bin, bo_some, ev_neg, ng_some, negD_int, ev_cmp, cb_some, bl_some, ev_ite, ei_some, ev_call, cl_some, rD_val, rD_own, rD_tup, ev_bi, bf_some, ev_idx, ix_none, ix_some, cp_vi, cpt_none, cpt_val, cpt_own, cpt_tup, cv_val, cv_own, cp_vv, cp_vb, cp_vc, cp_vx, cp_vn, cp_c, cp_x, cp_s, cp_b, cp_f, ev_slc, s3_some, ev_lst, mko_some, ev_tup, tpo_some, ev_dic0, ev_comp, cm_some, evs_nil, evs_cons, cn_some, et_cmp, co_some, et_not, nt_some, et_and, an_some, et_or, or_some, et_ex, tb_some, eb_var, eb_non, eb_bool, eb_int, eb_str, eb_bin, eb_neg, eb_cmp, eb_ite, eb_call, eb_bi, eb_idx, eb_slc, eb_lst, eb_tup, eb_dic0, eb_comp, rd_zero, rd_succ, put_zero, put_succ, asg_put, toV_val, toB_val, toB_own, ownOf_, toO_own, toD_val, toD_own, toD_tup, ctoD_val, ctoD_own, cds_nil, cds_cons, cs2_some, bin_add, bin_sub, bin_mul, bin_fdiv, bin_mod, bi_len, bi_list, idx_il, idx_tup, idx_dic, add_il, rep_il, mk_nil, mk_one, mk_int, mk_dints, lst_dints, lst_nil, slc_il, slc_il0, slc_il1, cmp_eq, cmp_ne, cmp_lt, cmp_le, cmp_gt, cmp_ge, cmp_in, cmp_notin, ok_int, ok_il, eqb_int, eqb_il, lid, sto0, r0, r2, r12, hcc, hcl, hw])
  exact ⟨ws, h1, by simpa [rngI] using h3, h4⟩

theorem built_free (n : Nat) {bs : List Bk} {m : Nat} (hb : (flat bs).length < 900) (hm : m < 10) {e0 e1 e2 e3 e4 e6 e7 e9 e10 e11 : Option R} :
    execs (Gt n) N0 100 l_law_built_2 [e0, e1, e2, e3, e4, some (.val (il (flat bs))), e6, e7, some (.val (.int (-((m : Int) + 1)))), e9, e10, e11]
      = some (.next [e0, e1, e2, e3, e4, some (.val (il (flat (bs ++ [.free m])))), e6, e7, some (.val (.int (-((m : Int) + 1)))), e9, e10, e11]) := by
  have h1 : -((m : Int) + 1) < 0 := by lia
  have l1 : (flat bs).length + 1 ≤ 4096 := by lia
  have l2 : (flat bs).length + 1 + m ≤ 4096 := by lia
  have g1 : (0 : Int) ≤ m ∧ (m : Int) ≤ 4096 := by lia
  have e : -(-((m : Int) + 1)) - 1 = m := by lia
  have hf : flat (bs ++ [.free m]) = flat bs ++ (-((m : Int) + 1)) :: List.replicate m 0 := by rw [flat_app]; simp [flat, Bk.flat]
  generalize hh : -((m : Int) + 1) = h at *
  rw [hf]
  simp [l_law_built_2, run_, rt_ret, rt_next, es_nil, es_cons, nx_next, nx_brk, nx_ret, ex_assign, setV_some, ex_assignO, setR_some, nxt_some, ex_take, tk_tup, tk2_own, ex_frz, fz_some, fv_some, ex_unpack, un_tup, puts_nil, puts_cons, ex_setidx, si_int, si2_some, ex_append, ap_some, ex_ite, br_some, ex_for1, f1_some, ex_for2, f2_some, ex_while, ex_ret, rv_some, ex_ret2, r2_some, ex_brk, ex_laid, ld_some, ld2_some, ld3_some, evI_range, rg_some, evI_seq, sq_some, seq_il, rng_int, evO_call, cO_some, evO_lst, evO_bin, evO_list, ow_some, own_il, own_lst, ev_non, ev_bool, ev_int, ev_str, ev_var, ev_bin, bo_some, ev_neg, ng_some, negD_int, ev_cmp, cb_some, bl_some, ev_ite, ei_some, ev_call, cl_some, rD_val, rD_own, rD_tup, ev_bi, bf_some, ev_idx, ix_none, ix_some, cp_vi, cpt_none, cpt_val, cpt_own, cpt_tup, cv_val, cv_own, cp_vv, cp_vb, cp_vc, cp_vx, cp_vn, cp_c, cp_x, cp_s, cp_b, cp_f, ev_slc, s3_some, ev_lst, mko_some, ev_tup, tpo_some, ev_dic0, ev_comp, cm_some, evs_nil, evs_cons, cn_some, et_cmp, co_some, et_not, nt_some, et_and, an_some, et_or, or_some, et_ex, tb_some, eb_var, eb_non, eb_bool, eb_int, eb_str, eb_bin, eb_neg, eb_cmp, eb_ite, eb_call, eb_bi, eb_idx, eb_slc, eb_lst, eb_tup, eb_dic0, eb_comp, rd_zero, rd_succ, put_zero, put_succ, asg_put, toV_val, toB_val, toB_own, ownOf_, toO_own, toD_val, toD_own, toD_tup, ctoD_val, ctoD_own, cds_nil, cds_cons, cs2_some, bin_add, bin_sub, bin_mul, bin_fdiv, bin_mod, bi_len, bi_list, idx_il, idx_tup, idx_dic, add_il, rep_il, mk_nil, mk_one, mk_int, mk_dints, lst_dints, lst_nil, slc_il, slc_il0, slc_il1, cmp_eq, cmp_ne, cmp_lt, cmp_le, cmp_gt, cmp_ge, cmp_in, cmp_notin, ok_int, ok_il, eqb_int, eqb_il, lid, sto0, h1, l1, l2, g1, e]

theorem built_obj (n : Nat) {xs sp : List Int} {bs : List Bk} {m cell : Nat} {r2 : R} (hx : xs.length ≤ 63) (hsp : ∀ s ∈ sp, 0 ≤ s ∧ s < 1000) (hl : sp.length < 1000) (hb : (flat bs).length < 900) (hbl : bs.length < 900) (hm : m < 10) (hr2 : r2.toD? = some (il sp)) {e1 e3 e4 e10 e11 : Option R} :
    ∃ ws, ws.length = m ∧ (∀ w ∈ ws, Val sp w) ∧ execs (Gt (n + 1)) N0 100 l_law_built_2 [some (.val (il xs)), e1, some r2, e3, e4, some (.val (il (flat bs))), some (.val (.dic (oks 0 bs) (ods bs))), some (.val (.int cell)), some (.val (.int m)), none, e10, e11]
      = some (.next [some (.val (il xs)), e1, some (.val (il sp)), e3, e4, some (.val (il (flat (bs ++ [.obj ws])))), some (.val (.dic (oks 0 (bs ++ [.obj ws])) (ods (bs ++ [.obj ws])))), some (.val (.int ((cell + m : Nat) : Int))), some (.val (.int m)), none, e10, some (.val (il ws))]) := by
  obtain ⟨ws, h1, h2, h3⟩ := words_ex n hx hsp hl (c := .var 7) (base := cell) (σ := [some (.val (il xs)), e1, some (.val (il sp)), e3, e4, some (.val (il (flat bs))), some (.val (.dic (oks 0 bs) (ods bs))), some (.val (.int cell)), some (.val (.int m)), none, e10, e11]) rfl rfl rfl (fun x => rfl) m
  refine ⟨ws, h2, h3, ?_⟩
  obtain ⟨ol1, ol2⟩ := oks_len bs 0
  have i1 := items_itm (oks 0 bs) (ods bs) ol1 (by lia)
  have i2 := add_itm (oks 0 bs) (ods bs) ((flat bs).length : Int) (il ws) ol1 (by lia)
  have hok : oks 0 (bs ++ [.obj ws]) = oks 0 bs ++ [((flat bs).length : Int)] := by rw [oks_app]; simp [Bk.isFree]
  have hod : ods (bs ++ [.obj ws]) = ods bs ++ [il ws] := by rw [ods_app]; rfl
  have i3 := dict_itm (oks 0 bs ++ [((flat bs).length : Int)]) (ods bs ++ [il ws]) (by simp [ol1]) (by
    rw [← hok, oks_spots]; exact (spots_sorted _ _).imp fun h e => by lia) (by simp; lia)
  have hrg := rangeD_nat m (by lia)
  have hb4 : (flat bs).length ≤ 4096 := by lia
  have l1 : (flat bs).length + 1 ≤ 4096 := by lia
  have l2 : (flat bs).length + 1 + m ≤ 4096 := by lia
  have hm4 : m ≤ 4096 := by lia
  have hf : flat (bs ++ [.obj ws]) = flat bs ++ (m : Int) :: ws := by rw [flat_app]; simp [flat, Bk.flat, h2]
  have hm0 : ¬ (m : Int) < 0 := by lia
  rw [hf, hok, hod]
  simp [l_law_built_2, run_, rt_ret, rt_next, es_nil, es_cons, nx_next, nx_brk, nx_ret, ex_assign, setV_some, ex_assignO, setR_some, nxt_some, ex_take, tk_tup, tk2_own, ex_frz, fz_some, fv_some, ex_unpack, un_tup, puts_nil, puts_cons, ex_setidx, si_int, si2_some, ex_append, ap_some, ex_ite, br_some, ex_for1, f1_some, ex_for2, f2_some, ex_while, ex_ret, rv_some, ex_ret2, r2_some, ex_brk, ex_laid, ld_some, ld2_some, ld3_some, evI_range, rg_some, evI_seq, sq_some, seq_il, rng_int, evO_call, cO_some, evO_lst, evO_bin, evO_list, ow_some, own_il, own_lst, ev_non, ev_bool, ev_int, ev_str, ev_var, ev_bin, bo_some, ev_neg, ng_some, negD_int, ev_cmp, cb_some, bl_some, ev_ite, ei_some, ev_call, cl_some, rD_val, rD_own, rD_tup, ev_bi, bf_some, ev_idx, ix_none, ix_some, cp_vi, cpt_none, cpt_val, cpt_own, cpt_tup, cv_val, cv_own, cp_vv, cp_vb, cp_vc, cp_vx, cp_vn, cp_c, cp_x, cp_s, cp_b, cp_f, ev_slc, s3_some, ev_lst, mko_some, ev_tup, tpo_some, ev_dic0, ev_comp, cm_some, evs_nil, evs_cons, cn_some, et_cmp, co_some, et_not, nt_some, et_and, an_some, et_or, or_some, et_ex, tb_some, eb_var, eb_non, eb_bool, eb_int, eb_str, eb_bin, eb_neg, eb_cmp, eb_ite, eb_call, eb_bi, eb_idx, eb_slc, eb_lst, eb_tup, eb_dic0, eb_comp, rd_zero, rd_succ, put_zero, put_succ, asg_put, toV_val, toB_val, toB_own, ownOf_, toO_own, toD_val, toD_own, toD_tup, ctoD_val, ctoD_own, cds_nil, cds_cons, cs2_some, bin_add, bin_sub, bin_mul, bin_fdiv, bin_mod, bi_len, bi_list, idx_il, idx_tup, idx_dic, add_il, rep_il, mk_nil, mk_one, mk_int, mk_dints, lst_dints, lst_nil, slc_il, slc_il0, slc_il1, cmp_eq, cmp_ne, cmp_lt, cmp_le, cmp_gt, cmp_ge, cmp_in, cmp_notin, ok_int, ok_il, eqb_int, eqb_il, lid, sto0, hm0, hr2, hrg, h1, h2, hm4, i1, i2, i3, hb4, l1, l2]

theorem built_mem (n : Nat) {xs S : List Int} (hx : xs.length ≤ 63) (hS : S.length ≤ 6) (hh : ∀ h ∈ S, -4 ≤ h ∧ h ≤ 3) {e3 e4 e10 : Option R} {cell₀ : Nat} :
    ∃ bs r2 hv cv wv, bs.map Bk.shp = S ∧ r2.toD? = some (il (spotsOf 0 S)) ∧ (∀ b ∈ bs, BkVal (spotsOf 0 S) b) ∧ fo (asg 8) (execs (Gt (n + 1)) N0 100 l_law_built_2) (dints S) [some (.val (il xs)), some (.val (il S)), some (.own (dints (spotsOf 0 S))), e3, e4, some (.val (il [])), some (.val (.dic [] [])), some (.val (.int cell₀)), none, none, e10, none]
      = some (.next [some (.val (il xs)), some (.val (il S)), some r2, e3, e4, some (.val (il (flat bs))), some (.val (.dic (oks 0 bs) (ods bs))), cv, hv, none, e10, wv]) := by
  have htot := tot_le S hh
  have hsp : ∀ s ∈ spotsOf 0 S, 0 ≤ s ∧ s < 1000 := fun s hs => by have := spots_lt S 0 s hs; lia
  have hspl : (spotsOf 0 S).length < 1000 := by have := spots_len S 0; lia
  have key := fo_list (a := asg 8) (b := execs (Gt (n + 1)) N0 100 l_law_built_2) (fun rem σ => ∃ (bs : List Bk) (T : List Int) (r2 : R) (cell : Nat) (hv wv : Option R), S = bs.map Bk.shp ++ T ∧ rem = dints T ∧ r2.toD? = some (il (spotsOf 0 S)) ∧ (∀ b ∈ bs, BkVal (spotsOf 0 S) b) ∧ σ = [some (.val (il xs)), some (.val (il S)), some r2, e3, e4, some (.val (il (flat bs))), some (.val (.dic (oks 0 bs) (ods bs))), some (.val (.int cell)), hv, none, e10, wv])
    (fun o => ∃ bs r2 hv cv wv, bs.map Bk.shp = S ∧ r2.toD? = some (il (spotsOf 0 S)) ∧ (∀ b ∈ bs, BkVal (spotsOf 0 S) b) ∧ o = .next [some (.val (il xs)), some (.val (il S)), some r2, e3, e4, some (.val (il (flat bs))), some (.val (.dic (oks 0 bs) (ods bs))), cv, hv, none, e10, wv]) ?_ ?_ (dints S) _ ⟨[], S, .own (dints (spotsOf 0 S)), cell₀, none, none, rfl, rfl, rfl, fun _ h => (nomatch h), rfl⟩
  · obtain ⟨o, h1, bs, r2, hv, cv, wv, h2, h3, h4, rfl⟩ := key
    exact ⟨bs, r2, hv, cv, wv, h2, h3, h4, h1⟩
  · rintro σ ⟨bs, T, r2, cell, hv, wv, hST, hr, h2, hv', rfl⟩
    have : T = [] := by cases T with | nil => rfl | cons _ _ => simp [dints] at hr
    subst this
    exact ⟨bs, r2, hv, _, wv, by simpa using hST.symm, h2, hv', rfl⟩
  · rintro x rr σ ⟨bs, T, r2, cell, hv, wv, hST, hr, h2, hv', rfl⟩
    cases T with
    | nil => simp [dints] at hr
    | cons h T =>
      rw [dints_cons] at hr
      cases hr
      have hb := hh h (by rw [hST]; simp)
      have hbl : bs.length < 900 := by have := congrArg List.length hST; simp at this; lia
      have hfl : (flat bs).length < 900 := by
        have h1 := tot_flat bs
        have h2 : tot S = tot (bs.map Bk.shp) + tot (h :: T) := by rw [hST, tot_app]
        lia
      by_cases hn : h < 0
      · obtain ⟨m, rfl⟩ : ∃ m : Nat, h = -((m : Int) + 1) := ⟨(-h - 1).toNat, by lia⟩
        refine ⟨_, .next _, rfl, built_free (n + 1) hfl (by lia), bs ++ [.free m], T, r2, cell, some (.val (.int (-((m : Int) + 1)))), wv, by rw [hST]; simp [Bk.shp], rfl, h2, ?_, ?_⟩
        · intro b hb'
          rcases List.mem_append.mp hb' with hb' | hb'
          · exact hv' b hb'
          · rw [List.mem_singleton.mp hb']; trivial
        · rw [oks_app, ods_app]; simp [Bk.isFree, ods]
      · obtain ⟨m, rfl⟩ : ∃ m : Nat, h = (m : Int) := ⟨h.toNat, by lia⟩
        obtain ⟨ws, w1, w2, w3⟩ := built_obj n (sp := spotsOf 0 S) (cell := cell) (m := m) hx hsp hspl hfl hbl (by lia) h2 (e1 := some (.val (il S))) (e3 := e3) (e4 := e4) (e10 := e10) (e11 := wv)
        refine ⟨_, .next _, rfl, w3, bs ++ [.obj ws], T, .val (il (spotsOf 0 S)), cell + m, _, _, by rw [hST]; simp [Bk.shp, w1], rfl, rfl, ?_, rfl⟩
        intro b hb'
        rcases List.mem_append.mp hb' with hb' | hb'
        · exact hv' b hb'
        · rw [List.mem_singleton.mp hb']; exact w2

theorem built_run (n : Nat) {xs : List Int} (hx : xs.length ≤ 63) : ∃ bs roots, Gt (n + 2) "_law_built" [il xs] = some (.val (.tup [il (flat bs), .dic (oks 0 bs) (ods bs), il roots])) ∧ roots.length = 4 ∧ (∀ w ∈ roots, Val (oks 0 bs) w) ∧ (∀ b ∈ bs, BkVal (oks 0 bs) b) ∧ bs.length ≤ 6 ∧ (flat bs).length ≤ 24 := by
  rw [gt_run (b := b_law_built) (vs := vs_law_built) rfl rfl]
  have hc0 := cell_run n xs 0 hx (by lia)
  generalize hc : xs.getD (0 : Int).toNat 0 = c at hc0
  have k0 : 0 ≤ c % 6 := by lia
  have k1 : c % 6 < 6 := by lia
  obtain ⟨m, hm, hm6⟩ : ∃ m : Nat, 1 + c % 6 = (m : Int) ∧ m ≤ 6 := ⟨(1 + c % 6).toNat, by lia, by lia⟩
  obtain ⟨S, iv, kv, hS, hh, hl1⟩ := built_shapes n hx m hm6
  obtain ⟨bs, r2, hv, cv, wv, hb1, hb2, hb3, hl2⟩ := built_mem n (S := S) hx (by lia) hh (e3 := some (.val (.int (tot S)))) (e4 := iv) (e10 := kv) (cell₀ := 6 + S.length)
  have hos : oks 0 bs = spotsOf 0 S := by rw [oks_spots, hb1]
  have htot := tot_le S hh
  have hsp : ∀ s ∈ spotsOf 0 S, 0 ≤ s ∧ s < 1000 := fun s hs => by have := spots_lt S 0 s hs; lia
  have hspl : (spotsOf 0 S).length < 1000 := by have := spots_len S 0; lia
  obtain ⟨roots, h1, h2, h3⟩ := words_ex n hx hsp hspl (c := .int 2) (base := 2) (σ := [some (.val (il xs)), some (.val (il S)), some (.val (il (spotsOf 0 S))), some (.val (.int (tot S))), iv, some (.val (il (flat bs))), some (.val (.dic (oks 0 bs) (ods bs))), cv, hv, none, kv, wv]) rfl rfl rfl (fun x => rfl) 4
  have hfl : (flat bs).length = tot S := by rw [← hb1, tot_flat]
  refine ⟨bs, roots, ?_, h2, by rw [hos]; exact h3, by rw [hos]; exact hb3, by rw [← hS, ← hb1] at hm6; simpa using hm6, by lia⟩
  have hrg := rangeD_nat m (by lia)
  have hr4 : rangeD 4 = some (rngI 0 4) := rangeD_nat 4 (by lia)
  have hS4 : S.length ≤ 4096 := by lia
  have hc6 : ((6 + S.length : Nat) : Int) = 6 + (S.length : Int) := by lia
  rw [hc6] at hl2
  simp [b_law_built, vs_law_built, run_, rt_ret, rt_next, es_nil, es_cons, nx_next, nx_brk, nx_ret, ex_assign, setV_some, ex_assignO, setR_some, nxt_some, ex_take, tk_tup, tk2_own, ex_frz, fz_some, fv_some, ex_unpack, un_tup, puts_nil, puts_cons, ex_setidx, si_int, si2_some, ex_append, ap_some, ex_ite, br_some, ex_for1, f1_some, ex_for2, f2_some, ex_while, ex_ret, rv_some, ex_ret2, r2_some, ex_brk, ex_laid, ld_some, ld2_some, ld3_some, evI_range, rg_some, evI_seq, sq_some, seq_il, rng_int, evO_call, cO_some, evO_lst, evO_bin, evO_list, ow_some, own_il, own_lst, ev_non, ev_bool, ev_int, ev_str, ev_var, ev_bin, bo_some, ev_neg, ng_some, negD_int, ev_cmp, cb_some, bl_some, ev_ite, ei_some, ev_call, cl_some, rD_val, rD_own, rD_tup, ev_bi, bf_some, ev_idx, ix_none, ix_some, cp_vi, cpt_none, cpt_val, cpt_own, cpt_tup, cv_val, cv_own, cp_vv, cp_vb, cp_vc, cp_vx, cp_vn, cp_c, cp_x, cp_s, cp_b, cp_f, ev_slc, s3_some, ev_lst, mko_some, ev_tup, tpo_some, ev_dic0, ev_comp, cm_some, evs_nil, evs_cons, cn_some, et_cmp, co_some, et_not, nt_some, et_and, an_some, et_or, or_some, et_ex, tb_some, eb_var, eb_non, eb_bool, eb_int, eb_str, eb_bin, eb_neg, eb_cmp, eb_ite, eb_call, eb_bi, eb_idx, eb_slc, eb_lst, eb_tup, eb_dic0, eb_comp, rd_zero, rd_succ, put_zero, put_succ, asg_put, toV_val, toB_val, toB_own, ownOf_, toO_own, toD_val, toD_own, toD_tup, ctoD_val, ctoD_own, cds_nil, cds_cons, cs2_some, bin_add, bin_sub, bin_mul, bin_fdiv, bin_mod, bi_len, bi_list, idx_il, idx_tup, idx_dic, add_il, rep_il, mk_nil, mk_one, mk_int, mk_dints, lst_dints, lst_nil, slc_il, slc_il0, slc_il1, cmp_eq, cmp_ne, cmp_lt, cmp_le, cmp_gt, cmp_ge, cmp_in, cmp_notin, ok_int, ok_il, eqb_int, eqb_il, lid, sto0, hc0, hm, hrg, hl1, hS4, hl2, hb2, hr4, h1, h2]
end Mine

set_option maxRecDepth 10000
set_option linter.unusedSimpArgs false
set_option linter.unusedVariables false
namespace Mine
open PySem

noncomputable def Bk.wds : Bk → List Int
  | .obj ws => ws
  | .free _ => []
noncomputable def objF : Nat → List Bk → Int → List Int
  | _, [], _ => []
  | off, b :: bs, a => if a = off then b.wds else objF (off + b.size) bs a
theorem obj_at : ∀ {bs : List Bk} {off : Nat} {a : Int} {ws : List Int}, At off bs a ws → objF off bs a = ws
  | b :: bs, off, a, ws, .inl ⟨h1, h2⟩ => by subst h2; simp [objF, h1, Bk.wds]
  | b :: bs, off, a, ws, .inr h => by
    have hg := h.ge
    have := b.size_pos
    rw [objF, if_neg (by lia)]; exact obj_at h

theorem live_oks {f : Int → List Int} : ∀ {bs : List Bk} {off : Nat}, (∀ a ws, At off bs a ws → f a = ws) → live f (oks off bs) ≤ (flat bs).length
  | [], _, _ => by simp [oks, live]
  | .free n :: bs, off, h => by
    have := live_oks (bs := bs) (off := off + (n + 1)) fun a ws q => h a ws (.inr q)
    rw [oks, flat_cons_len]; lia
  | .obj us :: bs, off, h => by
    have := live_oks (bs := bs) (off := off + (us.length + 1)) fun a ws q => h a ws (.inr q)
    have e := h off us (.inl ⟨rfl, rfl⟩)
    rw [oks, flat_cons_len, live, e]; simp [Bk.size]; lia
theorem wsum_live (f : Int → List Int) : ∀ keys : List Int, wsum f [] keys ≤ live f keys
  | [] => by simp [wsum, live]
  | a :: keys => by
    have := wsum_live f keys
    simp [wsum, live, List.filter_cons] at this ⊢
    lia
theorem ka_len {m : List Int} : ∀ (bs : List Bk) (off : Nat), (ka m off bs).length ≤ bs.length
  | [], _ => by simp [ka]
  | b :: bs, off => by
    have := ka_len (m := m) bs (off + b.size)
    rw [ka]
    split <;> simp <;> lia
theorem co_len {m : List Int} : ∀ (bs : List Bk) (off k : Nat), (flat (co m off k bs)).length = k + (flat bs).length
  | [], off, k => by simp [co, flat_frb, fr_len, flat]
  | b :: bs, off, k => by
    rw [co, flat_cons_len]
    split
    · have := co_len (m := m) bs (off + b.size) 0
      rw [flat_app, flat_frb, List.length_append, flat_cons_len, fr_len, this]; lia
    · rw [co_len bs (off + b.size) (k + b.size)]; lia
theorem At.unfrb {k off : Nat} {bs : List Bk} {a : Int} {ws : List Int} (h : At off (Mine.frb k ++ bs) a ws) : At (off + k) bs a ws := by
  unfold Mine.frb at h
  split at h
  · rename_i e; subst e; exact h
  · rcases h with ⟨_, h⟩ | h
    · cases h
    · have e : off + (Bk.free (k - 1)).size = off + k := by simp [Bk.size]; lia
      rw [e] at h; exact h
theorem At.unco {m : List Int} : ∀ {bs : List Bk} {off p k : Nat} {a : Int} {ws : List Int}, At p (Mine.co m off k bs) a ws → p + k = off → At off bs a ws
  | [], off, p, k, a, ws, h, hp => by
    have h' : At p (Mine.frb k ++ []) a ws := by simpa [Mine.co] using h
    exact h'.unfrb
  | b :: bs, off, p, k, a, ws, h, hp => by
    rw [Mine.co] at h
    split at h
    · have h' := h.unfrb
      rw [hp] at h'
      rcases h' with h' | h'
      · exact .inl h'
      · exact .inr (At.unco h' (by lia))
    · exact .inr (At.unco h (by lia))

section
variable {f : Int → List Int}
theorem pl_inj : ∀ {l : List Int} {a b : Int}, a ∈ l → b ∈ l → pl f l a = pl f l b → a = b
  | x :: l, a, b, ha, hb, h => by
    by_cases e1 : x = a
    · by_cases e2 : x = b
      · rw [← e1, ← e2]
      · rw [pl, if_pos e1, pl, if_neg e2] at h; lia
    · by_cases e2 : x = b
      · rw [pl, if_neg e1, pl, if_pos e2] at h; lia
      · have ha' := (List.mem_cons.mp ha).resolve_left fun q => e1 q.symm
        have hb' := (List.mem_cons.mp hb).resolve_left fun q => e2 q.symm
        rw [pl, if_neg e1, pl, if_neg e2] at h
        exact pl_inj ha' hb' (by lia)
theorem pl_map {f' : Int → List Int} {P : Int → Int} {r : List Int} (hP : ∀ a ∈ r, ∀ b ∈ r, P a = P b → a = b) (hf : ∀ a ∈ r, (f' (P a)).length = (f a).length) : ∀ {l : List Int} {a : Int}, (∀ x ∈ l, x ∈ r) → a ∈ r → pl f' (l.map P) (P a) = pl f l a
  | [], a, _, _ => rfl
  | x :: l, a, hl, ha => by
    have hx := hl x (.head _)
    by_cases e : x = a
    · simp [pl, e]
    · have e' : ¬ P x = P a := fun q => e (hP x hx a ha q)
      simp [pl, e, e', hf x hx, pl_map hP hf (fun y hy => hl y (.tail _ hy)) ha]
theorem live_map {f' : Int → List Int} {P : Int → Int} : ∀ {l : List Int}, (∀ a ∈ l, (f' (P a)).length = (f a).length) → live f' (l.map P) = live f l
  | [], _ => rfl
  | x :: l, h => by simp [live, h x (.head _), live_map fun y hy => h y (.tail _ hy)]

/-- what moving does -/
structure Mv (f f' : Int → List Int) (r : List Int) (P : Int → Nat) : Prop where
  inj : ∀ a ∈ r, ∀ b ∈ r, P a = P b → a = b
  fld : ∀ a ∈ r, f' (P a : Int) = (f a).map (mend P)

theorem mend_odd {P : Int → Nat} {w : Int} : (mend P w % 2 = 1 ↔ w % 2 = 1) ∧ (w % 2 = 1 → mend P w / 2 = P (w / 2)) := by
  unfold mend
  split
  · exact ⟨⟨fun _ => ‹_›, fun _ => by lia⟩, fun _ => by lia⟩
  · exact ⟨Iff.rfl, fun h => absurd h ‹_›⟩
theorem Go.map {f' : Int → List Int} {P : Int → Nat} {R : List Int} (M : Mv f f' R P) {k : Nat} {met q r : List Int} (g : Go f k met q r) (hr : ∀ a ∈ r, a ∈ R) : Go f' k (met.map fun a => (P a : Int)) (q.map (mend P)) (r.map fun a => (P a : Int)) := by
  induction g with
  | nil => exact .nil
  | @skip k met w q r h g ih =>
    refine .skip (fun hh => h ⟨mend_odd.1.mp hh.1, fun hm => hh.2 ?_⟩) (ih hr)
    rw [mend_odd.2 (mend_odd.1.mp hh.1)]
    exact List.mem_map.mpr ⟨_, hm, rfl⟩
  | @new k met w q r h1 h2 g ih =>
    have hw : w / 2 ∈ R := hr _ (g.mem _ (by simp))
    refine .new (mend_odd.1.mpr h1) (fun hm => ?_) ?_
    · rw [mend_odd.2 h1] at hm
      obtain ⟨b, hb, he⟩ := List.mem_map.mp hm
      have : b = w / 2 := M.inj b (hr b (g.mem b (by simp [hb]))) _ hw (by lia)
      exact h2 (this ▸ hb)
    · have ih' := ih hr
      rw [mend_odd.2 h1, M.fld _ hw]
      simpa using ih'
theorem mend_mend {P Q : Int → Nat} {Q' : Int → Nat} {w : Int} (h : w % 2 = 1 → Q' (P (w / 2) : Int) = Q (w / 2)) : mend Q' (mend P w) = mend Q w := by
  by_cases hw : w % 2 = 1
  · have h1 : mend P w = 2 * (P (w / 2) : Int) + 1 := by simp [mend, hw]
    have h2 : (2 * (P (w / 2) : Int) + 1) % 2 = 1 := by lia
    have h3 : (2 * (P (w / 2) : Int) + 1) / 2 = (P (w / 2) : Int) := by lia
    rw [h1, mend, if_pos h2, h3, h hw, mend, if_pos hw]
  · simp [mend, hw]
end

noncomputable def objsOf (f : Int → List Int) (M : Int → Int) (r : List Int) : List Bk := r.map fun a => .obj ((f a).map M)
theorem flat_objs (f : Int → List Int) (M : Int → Int) : ∀ r : List Int, flat (objsOf f M r) = cooked f M r
  | [] => rfl
  | a :: r => by
    have := flat_objs f M r
    simp [objsOf, cooked, flat, Bk.flat] at this ⊢
    exact this
theorem at_objs (f : Int → List Int) (M : Int → Int) (rest : List Bk) : ∀ {l : List Int} {off : Nat} {a : Int}, a ∈ l → At off (objsOf f M l ++ rest) ((off + pl f l a : Nat) : Int) ((f a).map M)
  | x :: l, off, a, h => by
    by_cases e : x = a
    · subst e
      refine .inl ⟨by simp [pl], rfl⟩
    · have h' := (List.mem_cons.mp h).resolve_left fun q => e q.symm
      refine .inr ?_
      have := at_objs f M rest (off := off + (Bk.obj ((f x).map M)).size) h'
      rw [pl, if_neg e]
      have e2 : off + ((f x).length + 1 + pl f l a) = off + (Bk.obj ((f x).map M)).size + pl f l a := by simp [Bk.size]; lia
      rw [e2]
      exact this
theorem tailz_fr (lv size : Nat) (h : lv ≤ size) : tailz lv size = fr (size - lv) := by
  unfold tailz fr
  by_cases hlt : lv < size
  · rw [if_pos hlt, if_neg (by lia)]
    congr 1
    lia
  · rw [if_neg hlt, if_pos (by lia)]
theorem fsum_objs (f : Int → List Int) (M : Int → Int) : ∀ r : List Int, fsum (objsOf f M r) = 0
  | [] => rfl
  | a :: r => by
    have := fsum_objs f M r
    simp [objsOf, fsum, Bk.isFree] at this ⊢
    exact this
theorem frees_objs (f : Int → List Int) (M : Int → Int) (rest : List Bk) : ∀ (r : List Int) (off : Nat), frees off (objsOf f M r ++ rest) = frees (off + live f r) rest
  | [], off => by simp [objsOf, live]
  | a :: r, off => by
    have := frees_objs f M rest r (off + (Bk.obj ((f a).map M)).size)
    show (if (Bk.obj ((f a).map M)).isFree = true then [(off, (Bk.obj ((f a).map M)).size)] else []) ++ frees (off + (Bk.obj ((f a).map M)).size) (objsOf f M r ++ rest) = _
    rw [this]
    simp [live, Bk.size, Bk.isFree, Nat.add_assoc]

theorem il_inj {xs ys : List Int} (h : il xs = il ys) : xs = ys := by
  unfold il at h
  injection h with h
  induction xs generalizing ys with
  | nil => cases ys with | nil => rfl | cons _ _ => simp [dints] at h
  | cons x xs ih =>
    cases ys with
    | nil => simp [dints] at h
    | cons y ys =>
      rw [dints_cons, dints_cons] at h
      injection h with h1 h2
      injection h1 with h1
      rw [h1, ih h2]
theorem eqb_il' (xs : List Int) : D.eqb (il xs) (il xs) = true := by simp [eqb_il]
theorem eqbs_refl : ∀ ds : List D, (∀ d ∈ ds, D.eqb d d = true) → D.eqbs ds ds = true
  | [], _ => rfl
  | d :: ds, h => by
    show (D.eqb d d && D.eqbs ds ds) = true
    rw [h d (.head _), eqbs_refl ds fun x hx => h x (.tail _ hx)]
    rfl
theorem eqb_two (a b : List Int) : D.eqb (.tup [il a, il b]) (.tup [il a, il b]) = true := by
  show (D.eqb (il a) (il a) && (D.eqb (il b) (il b) && true)) = true
  rw [eqb_il', eqb_il']
  rfl
theorem eqb_shape (a : List Int) (l : List Int) (g : Int → List Int) : D.eqb (.tup [il a, .lst (l.map fun x => il (g x))]) (.tup [il a, .lst (l.map fun x => il (g x))]) = true := by
  show (D.eqb (il a) (il a) && (D.eqbs (l.map fun x => il (g x)) (l.map fun x => il (g x)) && true)) = true
  rw [eqb_il', eqbs_refl _ fun d hd => by obtain ⟨x, _, rfl⟩ := List.mem_map.mp hd; exact eqb_il' _]
  rfl
theorem ok_two (a b : List Int) : D.ok 4 (.tup [il a, il b]) = true := by
  show (D.ok 3 (il a) && (D.ok 3 (il b) && true)) = true
  rw [okn_il, okn_il]
  rfl
theorem ok_shape (a : List Int) (l : List Int) (g : Int → List Int) : D.ok 4 (.tup [il a, .lst (l.map fun x => il (g x))]) = true := by
  show (D.ok 3 (il a) && ((l.map fun x => il (g x)).all (D.ok 2) && true)) = true
  rw [okn_il, List.all_eq_true.mpr fun d hd => by obtain ⟨x, _, rfl⟩ := List.mem_map.mp hd; exact okn_il 1 _]
  rfl
theorem ok_laid (mem fields : List Int) (o : Option (Nat × Nat)) : D.ok 4 (laidF mem fields o) = true := by
  cases o with
  | some p => exact (Bool.and_eq_true _ _).mpr ⟨okn_il 2 _, rfl⟩
  | none => show D.ok 4 (.str (Str.ofString "oom")) = true; decide +kernel
theorem eqb_laid (mem fields : List Int) (o : Option (Nat × Nat)) : D.eqb (laidF mem fields o) (laidF mem fields o) = true := by
  cases o with
  | some p =>
    refine (Bool.and_eq_true _ _).mpr ⟨eqb_il' _, ?_⟩
    refine (Bool.and_eq_true _ _).mpr ⟨decide_eq_true rfl, rfl⟩
  | none => exact decide_eq_true (p := Str.ofString "oom" = Str.ofString "oom") rfl

/-- what is built, as the plain half sees it -/
structure Bt (bs : List Bk) (roots : List Int) : Prop where
  r4 : roots.length = 4
  rv : ∀ w ∈ roots, Val (oks 0 bs) w
  bv : ∀ b ∈ bs, BkVal (oks 0 bs) b
  b6 : bs.length ≤ 6
  f24 : (flat bs).length ≤ 24

/-- what is met, and the facts of it -/
structure Mt (bs : List Bk) (roots : List Int) (f : Int → List Int) (k : Nat) (r : List Int) : Prop where
  g : Go f k [] roots r
  k99 : k < 99
  fat : ∀ a ws, At 0 bs a ws → f a = ws
  rat : ∀ a ∈ r, At 0 bs a (f a)
  nd : r.Nodup
  pm : r.Perm (ka r 0 bs)
  r6 : r.length ≤ 6
  lv : live f r ≤ (flat bs).length

theorem Bt.met {bs : List Bk} {roots : List Int} (B : Bt bs roots) : ∃ f k r, Mt bs roots f k r := by
  have hfat : ∀ a ws, At 0 bs a ws → objF 0 bs a = ws := fun a ws h => obj_at h
  have hkey : ∀ a ∈ oks 0 bs, At 0 bs a (objF 0 bs a) := fun a ha => by
    obtain ⟨ws, h⟩ := at_oks ha
    rw [hfat a ws h]; exact h
  have hknd : (oks 0 bs).Nodup := by rw [oks_spots]; exact (spots_sorted _ _).imp fun h e => by lia
  have hval : ∀ a ∈ oks 0 bs, ∀ w ∈ objF 0 bs a, w % 2 = 1 → w / 2 ∈ oks 0 bs := fun a ha w hw h => at_val B.bv (hkey a ha) w hw h
  have hws := wsum_live (objF 0 bs) (oks 0 bs)
  have hlo := live_oks (f := objF 0 bs) hfat
  have h24 := B.f24
  have hr4 := B.r4
  obtain ⟨k, r, hk, g⟩ := go_exists hknd hval 28 [] roots (by lia) B.rv
  have hsub : ∀ a ∈ r, a ∈ oks 0 bs := g.sub (fun a h => nomatch h) B.rv hval
  have hnd := g.nodup List.nodup_nil
  have hrat : ∀ a ∈ r, At 0 bs a (objF 0 bs a) := fun a ha => hkey a (hsub a ha)
  obtain ⟨hpm, _⟩ := sorted_ka hnd fun a ha => ⟨_, hrat a ha⟩
  have hcs := co_sum (m := r) (f := objF 0 bs) (bs := bs) (off := 0) (k := 0) hfat
  have hlp := live_perm (f := objF 0 bs) hpm
  have hkl := ka_len (m := r) bs 0
  have hpl := hpm.length_eq
  have hb6 := B.b6
  exact ⟨objF 0 bs, k, r, ⟨g, by lia, hfat, hrat, hnd, hpm, by lia, by lia⟩⟩

section
variable {bs : List Bk} {roots : List Int} {f : Int → List Int} {k : Nat} {r : List Int}
theorem Mt.closed (M : Mt bs roots f k r) : (∀ w ∈ roots, w % 2 = 1 → w / 2 ∈ r) ∧ ∀ a ∈ r, ∀ w ∈ f a, w % 2 = 1 → w / 2 ∈ r := ⟨M.g.closed.1, fun a ha => M.g.closed.2 a ha (by simp)⟩
theorem Mt.objs (M : Mt bs roots f k r) : ∀ a ∈ r, ObjAt (flat bs) a (f a) := fun a ha => (M.rat a ha).obj
theorem Mt.flen (M : Mt bs roots f k r) (h : (flat bs).length ≤ 24) : ∀ a ∈ r, (f a).length < 1000 := fun a ha => by
  have := pl_lt (f := f) ha
  have := M.lv
  lia

/-- the memory that copying makes -/
noncomputable def bsC (f : Int → List Int) (r : List Int) (size : Nat) : List Bk := objsOf f (mend (pl f r)) r ++ frb (size - live f r)
theorem Mt.flatC (M : Mt bs roots f k r) : flat (bsC f r (flat bs).length) = cooked f (mend (pl f r)) r ++ tailz (live f r) (flat bs).length := by
  rw [bsC, flat_app, flat_objs, flat_frb, tailz_fr _ _ M.lv]
theorem Mt.lenC (M : Mt bs roots f k r) : (flat (bsC f r (flat bs).length)).length = (flat bs).length := by
  have := M.lv
  rw [bsC, flat_app, flat_objs, flat_frb, List.length_append, cooked_len, fr_len]; lia
theorem Mt.mv (M : Mt bs roots f k r) : Mv f (objF 0 (bsC f r (flat bs).length)) r (pl f r) := by
  refine ⟨fun a ha b hb h => pl_inj ha hb h, fun a ha => ?_⟩
  have := at_objs f (mend (pl f r)) (frb ((flat bs).length - live f r)) (off := 0) ha
  rw [Nat.zero_add] at this
  exact obj_at this
theorem Mt.atC (M : Mt bs roots f k r) : ∀ b ∈ r.map (fun a => (pl f r a : Int)), At 0 (bsC f r (flat bs).length) b (objF 0 (bsC f r (flat bs).length) b) := by
  intro b hb
  obtain ⟨a, ha, rfl⟩ := List.mem_map.mp hb
  have := at_objs f (mend (pl f r)) (frb ((flat bs).length - live f r)) (off := 0) ha
  rw [Nat.zero_add] at this
  have e : objF 0 (bsC f r (flat bs).length) (pl f r a : Int) = (f a).map (mend (pl f r)) := obj_at this
  rw [e]
  exact this
theorem Mt.goC (M : Mt bs roots f k r) : Go (objF 0 (bsC f r (flat bs).length)) k [] (roots.map (mend (pl f r))) (r.map fun a => (pl f r a : Int)) := Go.map M.mv M.g fun _ h => h
theorem Mt.liveC (M : Mt bs roots f k r) : live (objF 0 (bsC f r (flat bs).length)) (r.map fun a => (pl f r a : Int)) = live f r :=
  live_map fun a ha => by rw [M.mv.fld a ha]; simp
theorem Mt.plC (M : Mt bs roots f k r) {a : Int} (ha : a ∈ r) : pl (objF 0 (bsC f r (flat bs).length)) (r.map fun a => (pl f r a : Int)) (pl f r a : Int) = pl f r a :=
  pl_map (P := fun a => (pl f r a : Int)) (fun a ha b hb h => M.mv.inj a ha b hb (by lia)) (fun a ha => by rw [M.mv.fld a ha]; simp) (fun _ h => h) ha
theorem Mt.ixC (M : Mt bs roots f k r) {a : Int} (ha : a ∈ r) : ix (r.map fun a => (pl f r a : Int)) (pl f r a : Int) = ix r a :=
  pl_map (f := f0) (f' := f0) (P := fun a => (pl f r a : Int)) (fun a ha b hb h => M.mv.inj a ha b hb (by lia)) (fun a ha => rfl) (fun _ h => h) ha
theorem flatMap_cong {g h : Int → List Int} : ∀ l : List Int, (∀ a ∈ l, g a = h a) → l.flatMap g = l.flatMap h
  | [], _ => rfl
  | a :: l, q => by rw [List.flatMap_cons, List.flatMap_cons, q a (.head _), flatMap_cong l fun x hx => q x (.tail _ hx)]
theorem Mt.cookC (M : Mt bs roots f k r) : cooked (objF 0 (bsC f r (flat bs).length)) (mend (pl (objF 0 (bsC f r (flat bs).length)) (r.map fun a => (pl f r a : Int)))) (r.map fun a => (pl f r a : Int)) = cooked f (mend (pl f r)) r := by
  unfold cooked
  rw [List.flatMap_map]
  refine flatMap_cong _ fun a ha => ?_
  rw [M.mv.fld a ha]
  simp only [List.length_map, List.map_map]
  congr 1
  refine List.map_congr_left fun w hw => ?_
  exact mend_mend fun h => M.plC (M.closed.2 a ha w hw h)
theorem Mt.rootC (M : Mt bs roots f k r) : (roots.map (mend (pl f r))).map (mend (pl (objF 0 (bsC f r (flat bs).length)) (r.map fun a => (pl f r a : Int)))) = roots.map (mend (pl f r)) := by
  rw [List.map_map]
  exact List.map_congr_left fun w hw => mend_mend fun h => M.plC (M.closed.1 w hw h)
theorem Mt.shapeC (M : Mt bs roots f k r) : (roots.map (mend (pl f r))).map (mend (ix (r.map fun a => (pl f r a : Int)))) = roots.map (mend (ix r)) ∧
    ((r.map fun a => (pl f r a : Int)).map fun b => il ((objF 0 (bsC f r (flat bs).length) b).map (mend (ix (r.map fun a => (pl f r a : Int)))))) = r.map fun a => il ((f a).map (mend (ix r))) := by
  constructor
  · rw [List.map_map]
    exact List.map_congr_left fun w hw => mend_mend fun h => M.ixC (M.closed.1 w hw h)
  · rw [List.map_map]
    refine List.map_congr_left fun a ha => ?_
    simp only [Function.comp_apply]
    rw [M.mv.fld a ha, List.map_map]
    congr 1
    exact List.map_congr_left fun w hw => mend_mend fun h => M.ixC (M.closed.2 a ha w hw h)
theorem Mt.fsumC (M : Mt bs roots f k r) : (fsum (bsC f r (flat bs).length) : Int) = (flat bs).length - live f r := by
  have := M.lv
  rw [bsC, fsum_app, fsum_objs, fsum_frb]; lia
theorem Mt.freesC (M : Mt bs roots f k r) (fields : List Int) : (frees 0 (bsC f r (flat bs).length)).find? (fits fields) = [(live f r, (flat bs).length - live f r)].find? (fits fields) := by
  have h := frees_frb ((flat bs).length - live f r) (live f r) []
  rw [List.append_nil] at h
  rw [bsC, frees_objs, Nat.zero_add, h]
  split
  · rename_i e
    rw [e]
    simp [frees, fits]
  · simp [frees]
theorem Mt.fsumS (M : Mt bs roots f k r) : (fsum (co r 0 0 bs) : Int) = (flat bs).length - live f r := by
  have h1 := co_sum (m := r) (f := f) (bs := bs) (off := 0) (k := 0) M.fat
  have h2 := live_perm (f := f) M.pm
  lia
theorem Mt.lenS (bs : List Bk) (r : List Int) : (flat (co r 0 0 bs)).length = (flat bs).length := by rw [co_len]; lia
theorem Mt.atS (M : Mt bs roots f k r) : ∀ a ∈ r, At 0 (co r 0 0 bs) a (f a) := fun a ha => At.co (M.rat a ha) ha rfl
theorem Mt.twiceS (M : Mt bs roots f k r) (h24 : (flat bs).length ≤ 24) : flat (co r 0 0 (co r 0 0 bs)) = flat (co r 0 0 bs) := by
  have hr6 := M.r6
  have hl := Mt.lenS bs r
  have h1 := sweep_due_run 0 (f := f) (r := r) (ks := oks 0 bs) (ds := ods bs) (bs := bs) (by lia) (by lia) M.nd (fun a ha => ⟨_, M.rat a ha⟩) M.fat (fun a ha => look_at (M.rat a ha))
  have h2 := sweep_due_run 0 (f := f) (r := r) (ks := oks 0 bs) (ds := ods bs) (bs := co r 0 0 bs) (by lia) (by lia) M.nd (fun a ha => ⟨_, M.atS a ha⟩) (fun a ws h => M.fat a ws (At.unco h rfl)) (fun a ha => look_at (M.rat a ha))
  rw [hl, h1] at h2
  injection h2 with h2
  injection h2 with h2
  injection h2 with h2
  injection h2 with h2 h3
  exact (il_inj h2).symm
end
end Mine

set_option maxRecDepth 20000
set_option linter.unusedSimpArgs false
set_option linter.unusedVariables false
namespace Mine
open PySem

theorem cds_vals : ∀ ds : List D, cds (ds.map .val) = some ds
  | [] => rfl
  | d :: ds => by rw [List.map_cons, cds_cons, cds_vals ds]; rfl
theorem sum_dints (xs : List Int) : bi1 .sum (il xs) = some (.int xs.sum) := by
  show ((dnums (dints xs)).map fun ns => D.int ns.sum) = _
  rw [ints_dints]
  rfl
theorem live_sum_int (f : Int → List Int) : ∀ l : List Int, (l.map fun a => ((f a).length : Int) + 1).sum = (live f l : Int)
  | [] => rfl
  | a :: l => by simp [live, live_sum_int f l]

theorem law_fields1 {bs : List Bk} {roots : List Int} {f : Int → List Int} {k : Nat} {r : List Int} (M : Mt bs roots f k r) (h24 : (flat bs).length ≤ 24) {fields : List Int} (hf : fields.length ≤ 3) {e0 e1 e2 e3 e5 e6 e7 e8 e11 e12 e13 e15 e17 e18 e19 : Option R} {cr : D} :
    execs (Gt 3) Lt 100 l_law_1 [e0, e1, e2, e3, some (.val (.int (flat bs).length)), e5, e6, e7, e8, some (.val (.int (live f r))), some (.val (.tup [il (flat (bsC f r (flat bs).length)), cr])), e11, e12, e13, some (.val (.tup [il (flat (bsC f r (flat bs).length)), cr])), e15, some (.val (il fields)), e17, e18, e19]
      = some (.next [e0, e1, e2, e3, some (.val (.int (flat bs).length)), e5, e6, e7, e8, some (.val (.int (live f r))), some (.val (.tup [il (flat (bsC f r (flat bs).length)), cr])), e11, e12, e13, some (.val (.tup [il (flat (bsC f r (flat bs).length)), cr])), e15, some (.val (il fields)), e17, e18, e19]) := by
  have hl := M.lenC
  have hlv := M.lv
  have h1 := lt_run (bs := bsC f r (flat bs).length) (fields := fields) (by lia) hf
  have h2 := laid_due_run 2 (mem := flat (bsC f r (flat bs).length)) (fields := fields) (gs := [(live f r, (flat bs).length - live f r)]) (by lia) (by lia) (by simp) (by simp; lia)
  rw [← M.freesC] at h2
  have e : ((flat bs).length : Int) - live f r = (((flat bs).length - live f r : Nat) : Int) := by lia
  have h3 := ok_laid (flat (bsC f r (flat bs).length)) fields ((frees 0 (bsC f r (flat bs).length)).find? (fits fields))
  have h4 := eqb_laid (flat (bsC f r (flat bs).length)) fields ((frees 0 (bsC f r (flat bs).length)).find? (fits fields))
  simp only [List.map_cons, List.map_nil, gD] at h2
  simp [l_law_1, run_, rt_ret, rt_next, es_nil, es_cons, nx_next, nx_brk, nx_ret, ex_assign, setV_some, ex_assignO, setR_some, nxt_some, ex_take, tk_tup, tk2_own, ex_frz, fz_some, fv_some, ex_unpack, un_tup, puts_nil, puts_cons, ex_setidx, si_int, si2_some, ex_append, ap_some, ex_ite, br_some, ex_for1, f1_some, ex_for2, f2_some, ex_while, ex_ret, rv_some, ex_ret2, r2_some, ex_brk, ex_laid, ld_some, ld2_some, ld3_some, evI_range, rg_some, evI_seq, sq_some, seq_il, rng_int, evO_call, cO_some, evO_lst, evO_bin, evO_list, ow_some, own_il, own_lst, ev_non, ev_bool, ev_int, ev_str, ev_var, ev_bin, bo_some, ev_neg, ng_some, negD_int, ev_cmp, cb_some, bl_some, ev_ite, ei_some, ev_call, cl_some, rD_val, rD_own, rD_tup, ev_bi, bf_some, ev_idx, ix_none, ix_some, cp_vi, cpt_none, cpt_val, cpt_own, cpt_tup, cv_val, cv_own, cp_vv, cp_vb, cp_vc, cp_vx, cp_vn, cp_c, cp_x, cp_s, cp_b, cp_f, ev_slc, s3_some, ev_lst, mko_some, ev_tup, tpo_some, ev_dic0, ev_comp, cm_some, evs_nil, evs_cons, cn_some, et_cmp, co_some, et_not, nt_some, et_and, an_some, et_or, or_some, et_ex, tb_some, eb_var, eb_non, eb_bool, eb_int, eb_str, eb_bin, eb_neg, eb_cmp, eb_ite, eb_call, eb_bi, eb_idx, eb_slc, eb_lst, eb_tup, eb_dic0, eb_comp, rd_zero, rd_succ, put_zero, put_succ, asg_put, toV_val, toB_val, toB_own, ownOf_, toO_own, toD_val, toD_own, toD_tup, ctoD_val, ctoD_own, cds_nil, cds_cons, cs2_some, bin_add, bin_sub, bin_mul, bin_fdiv, bin_mod, bi_len, bi_list, idx_il, idx_tup, idx_dic, add_il, rep_il, mk_nil, mk_one, mk_int, mk_dints, lst_dints, lst_nil, slc_il, slc_il0, slc_il1, cmp_eq, cmp_ne, cmp_lt, cmp_le, cmp_gt, cmp_ge, cmp_in, cmp_notin, ok_int, ok_il, eqb_int, eqb_il, lid, sto0, h1, e, h2, h3, h4]
theorem law_fields2 {bs : List Bk} {roots : List Int} {f : Int → List Int} {k : Nat} {r : List Int} (M : Mt bs roots f k r) (h24 : (flat bs).length ≤ 24) {fields : List Int} (hf : fields.length ≤ 3) {e0 e1 e2 e3 e4 e5 e6 e7 e8 e9 e10 e13 e14 e17 e18 e19 : Option R} (hgl : ((frees 0 (co r 0 0 bs))).length ≤ 4096) (hg : ∀ p ∈ frees 0 (co r 0 0 bs), p.1 + p.2 ≤ (flat (co r 0 0 bs)).length) :
    execs (Gt 3) Lt 100 l_law_2 [e0, e1, e2, e3, e4, e5, e6, e7, e8, e9, e10, some (.val (il (flat (co r 0 0 bs)))), some (.val (.lst ((frees 0 (co r 0 0 bs)).map gD))), e13, e14, some (.val (il (flat (co r 0 0 bs)))), some (.val (il fields)), e17, e18, e19]
      = some (.next [e0, e1, e2, e3, e4, e5, e6, e7, e8, e9, e10, some (.val (il (flat (co r 0 0 bs)))), some (.val (.lst ((frees 0 (co r 0 0 bs)).map gD))), e13, e14, some (.val (il (flat (co r 0 0 bs)))), some (.val (il fields)), e17, e18, e19]) := by
  have hl := Mt.lenS bs r
  have h1 := lt_run (bs := co r 0 0 bs) (fields := fields) (by lia) hf
  have h2 := laid_due_run 2 (mem := flat (co r 0 0 bs)) (fields := fields) (gs := frees 0 (co r 0 0 bs)) (by lia) (by lia) hgl hg
  have h3 := ok_laid (flat (co r 0 0 bs)) fields ((frees 0 (co r 0 0 bs)).find? (fits fields))
  have h4 := eqb_laid (flat (co r 0 0 bs)) fields ((frees 0 (co r 0 0 bs)).find? (fits fields))
  simp [l_law_2, run_, rt_ret, rt_next, es_nil, es_cons, nx_next, nx_brk, nx_ret, ex_assign, setV_some, ex_assignO, setR_some, nxt_some, ex_take, tk_tup, tk2_own, ex_frz, fz_some, fv_some, ex_unpack, un_tup, puts_nil, puts_cons, ex_setidx, si_int, si2_some, ex_append, ap_some, ex_ite, br_some, ex_for1, f1_some, ex_for2, f2_some, ex_while, ex_ret, rv_some, ex_ret2, r2_some, ex_brk, ex_laid, ld_some, ld2_some, ld3_some, evI_range, rg_some, evI_seq, sq_some, seq_il, rng_int, evO_call, cO_some, evO_lst, evO_bin, evO_list, ow_some, own_il, own_lst, ev_non, ev_bool, ev_int, ev_str, ev_var, ev_bin, bo_some, ev_neg, ng_some, negD_int, ev_cmp, cb_some, bl_some, ev_ite, ei_some, ev_call, cl_some, rD_val, rD_own, rD_tup, ev_bi, bf_some, ev_idx, ix_none, ix_some, cp_vi, cpt_none, cpt_val, cpt_own, cpt_tup, cv_val, cv_own, cp_vv, cp_vb, cp_vc, cp_vx, cp_vn, cp_c, cp_x, cp_s, cp_b, cp_f, ev_slc, s3_some, ev_lst, mko_some, ev_tup, tpo_some, ev_dic0, ev_comp, cm_some, evs_nil, evs_cons, cn_some, et_cmp, co_some, et_not, nt_some, et_and, an_some, et_or, or_some, et_ex, tb_some, eb_var, eb_non, eb_bool, eb_int, eb_str, eb_bin, eb_neg, eb_cmp, eb_ite, eb_call, eb_bi, eb_idx, eb_slc, eb_lst, eb_tup, eb_dic0, eb_comp, rd_zero, rd_succ, put_zero, put_succ, asg_put, toV_val, toB_val, toB_own, ownOf_, toO_own, toD_val, toD_own, toD_tup, ctoD_val, ctoD_own, cds_nil, cds_cons, cs2_some, bin_add, bin_sub, bin_mul, bin_fdiv, bin_mod, bi_len, bi_list, idx_il, idx_tup, idx_dic, add_il, rep_il, mk_nil, mk_one, mk_int, mk_dints, lst_dints, lst_nil, slc_il, slc_il0, slc_il1, cmp_eq, cmp_ne, cmp_lt, cmp_le, cmp_gt, cmp_ge, cmp_in, cmp_notin, ok_int, ok_il, eqb_int, eqb_il, lid, sto0, h1, h2, h3, h4]

theorem frees_in : ∀ (bs : List Bk) (off : Nat), (frees off bs).length ≤ (flat bs).length ∧ ∀ p ∈ frees off bs, p.1 + p.2 ≤ off + (flat bs).length
  | [], _ => ⟨by simp [frees], fun p h => nomatch h⟩
  | b :: bs, off => by
    obtain ⟨h1, h2⟩ := frees_in bs (off + b.size)
    have := b.size_pos
    rw [frees, flat_cons_len]
    refine ⟨?_, fun p hp => ?_⟩
    · split <;> simp <;> lia
    · rcases List.mem_append.mp hp with hp | hp
      · split at hp
        · rw [List.mem_singleton.mp hp]; lia
        · cases hp
      · have := h2 p hp; lia

theorem law_loop1 {bs : List Bk} {roots : List Int} {f : Int → List Int} {k : Nat} {r : List Int} (M : Mt bs roots f k r) (h24 : (flat bs).length ≤ 24) {z t : List Int} (hz : z.length ≤ 3) (ht : t.length ≤ 3) {e0 e1 e2 e3 e5 e6 e7 e8 e11 e12 e13 e15 e16 e17 e18 e19 : Option R} {cr : D} :
    fo (asg 16) (execs (Gt 3) Lt 100 l_law_1) [il z, il t] [e0, e1, e2, e3, some (.val (.int (flat bs).length)), e5, e6, e7, e8, some (.val (.int (live f r))), some (.val (.tup [il (flat (bsC f r (flat bs).length)), cr])), e11, e12, e13, some (.val (.tup [il (flat (bsC f r (flat bs).length)), cr])), e15, e16, e17, e18, e19]
      = some (.next [e0, e1, e2, e3, some (.val (.int (flat bs).length)), e5, e6, e7, e8, some (.val (.int (live f r))), some (.val (.tup [il (flat (bsC f r (flat bs).length)), cr])), e11, e12, e13, some (.val (.tup [il (flat (bsC f r (flat bs).length)), cr])), e15, some (.val (il t)), e17, e18, e19]) := by
  exact (fo_step rfl (law_fields1 M h24 hz)).trans (fo_step rfl (law_fields1 M h24 ht))
theorem law_loop2 {bs : List Bk} {roots : List Int} {f : Int → List Int} {k : Nat} {r : List Int} (M : Mt bs roots f k r) (h24 : (flat bs).length ≤ 24) {z t : List Int} (hz : z.length ≤ 3) (ht : t.length ≤ 3) {e0 e1 e2 e3 e4 e5 e6 e7 e8 e9 e10 e13 e14 e16 e17 e18 e19 : Option R} :
    fo (asg 16) (execs (Gt 3) Lt 100 l_law_2) [il z, il t] [e0, e1, e2, e3, e4, e5, e6, e7, e8, e9, e10, some (.val (il (flat (co r 0 0 bs)))), some (.val (.lst ((frees 0 (co r 0 0 bs)).map gD))), e13, e14, some (.val (il (flat (co r 0 0 bs)))), e16, e17, e18, e19]
      = some (.next [e0, e1, e2, e3, e4, e5, e6, e7, e8, e9, e10, some (.val (il (flat (co r 0 0 bs)))), some (.val (.lst ((frees 0 (co r 0 0 bs)).map gD))), e13, e14, some (.val (il (flat (co r 0 0 bs)))), some (.val (il t)), e17, e18, e19]) := by
  obtain ⟨h1, h2⟩ := frees_in (co r 0 0 bs) 0
  have hl := Mt.lenS bs r
  rw [Nat.zero_add] at h2
  have h1' : (frees 0 (co r 0 0 bs)).length ≤ 4096 := by lia
  exact (fo_step rfl (law_fields2 M h24 hz h1' h2)).trans (fo_step rfl (law_fields2 M h24 ht h1' h2))

theorem ex_step {Γ : Gam} {Λ : List D → Option D} {fuel : Nat} {t : S} {ss : Ss} {σ : Sto} {o : Option O} (σ' : Sto) (h : exec Γ Λ fuel t σ = some (.next σ')) (h2 : execs Γ Λ fuel ss σ' = o) : execs Γ Λ fuel (.cons t ss) σ = o := by
  rw [es_cons, h]; exact h2

theorem law_exec {xs mem roots r CM CR SM nw fl : List Int} {DC GP SH : D} {n L : Nat} {lv c tp w0 cw : Int} (hL : mem.length = L) (hL4 : L ≤ 1000) (hr4 : roots.length ≤ 1000) (hrr : r.length ≤ 1000) (hCR : CR.length ≤ 1000) (hn : c % 4 = (n : Int)) (hn3 : n ≤ 3) {g : Int → Int}
    (hbuilt : Gt 3 "_law_built" [il xs] = some (.val (.tup [il mem, DC, il roots])))
    (hcell : Gt 3 "_law_cell" [il xs, .int 1] = some (.val (.int c)))
    (hreach : Gt 3 "_law_reach" [DC, il roots] = some (.val (il r)))
    (hsum : mapO (elt (Gt 3) (.bin .add (.bi .len (.idx (.var 2) (.var 20))) (.int 1)) [some (.val (il xs)), some (.val (il mem)), some (.val DC), some (.val (il roots)), some (.val (.int L)), some (.val (.int n)), some (.val (il mem)), some (.val (il roots)), some (.val (il r)), none, none, none, none, none, none, none, none, none, none, none]) (dints r) = some (dints (r.map g))) (hlv : (r.map g).sum = lv)
    (hcd : Gt 3 "_law_copy_due" [DC, il r, il roots, .int L] = some (.val (.tup [il CM, il CR])))
    (hsd : Gt 3 "_law_sweep_due" [DC, il r, .int L] = some (.val (.tup [il SM, GP])))
    (hshd : Gt 3 "_law_shape_due" [DC, il r, il roots] = some (.val SH))
    (hcopy : Gt 3 "collected_by_copying" [il mem, il roots] = some (.val (.tup [il CM, il CR])))
    (hsweep : Gt 3 "collected_by_sweeping" [il mem, il roots] = some (.val (il SM)))
    (hcopy2 : Gt 3 "collected_by_copying" [il CM, il CR] = some (.val (.tup [il CM, il CR])))
    (hsweep2 : Gt 3 "collected_by_sweeping" [il SM, il roots] = some (.val (il SM)))
    (hsh1 : Gt 3 "shape_of" [il mem, il roots] = some (.val SH)) (hsh2 : Gt 3 "shape_of" [il SM, il roots] = some (.val SH)) (hsh3 : Gt 3 "shape_of" [il CM, il CR] = some (.val SH))
    (hfw1 : Gt 3 "free_words" [il CM] = some (.val (.int ((L : Int) - lv)))) (hfw2 : Gt 3 "free_words" [il SM] = some (.val (.int ((L : Int) - lv))))
    (hlp1 : ∀ z t : List Int, z.length ≤ 3 → t.length ≤ 3 → ∀ e0 e1 e2 e3 e5 e6 e7 e8 e11 e12 e13 e15 e16 e17 e18 e19 : Option R, fo (asg 16) (execs (Gt 3) Lt 100 l_law_1) [il z, il t] [e0, e1, e2, e3, some (.val (.int L)), e5, e6, e7, e8, some (.val (.int lv)), some (.val (.tup [il CM, il CR])), e11, e12, e13, some (.val (.tup [il CM, il CR])), e15, e16, e17, e18, e19]
      = some (.next [e0, e1, e2, e3, some (.val (.int L)), e5, e6, e7, e8, some (.val (.int lv)), some (.val (.tup [il CM, il CR])), e11, e12, e13, some (.val (.tup [il CM, il CR])), e15, some (.val (il t)), e17, e18, e19]))
    (hlp2 : ∀ z t : List Int, z.length ≤ 3 → t.length ≤ 3 → ∀ e0 e1 e2 e3 e4 e5 e6 e7 e8 e9 e10 e13 e14 e16 e17 e18 e19 : Option R, fo (asg 16) (execs (Gt 3) Lt 100 l_law_2) [il z, il t] [e0, e1, e2, e3, e4, e5, e6, e7, e8, e9, e10, some (.val (il SM)), some (.val GP), e13, e14, some (.val (il SM)), e16, e17, e18, e19]
      = some (.next [e0, e1, e2, e3, e4, e5, e6, e7, e8, e9, e10, some (.val (il SM)), some (.val GP), e13, e14, some (.val (il SM)), some (.val (il t)), e17, e18, e19]))
    (hbad : ∀ d : D, Lt [il (mem ++ [1]), d] = some (.str (Str.ofString "untiled")))
    (hfwd : Gt 3 "forwarded" [il mem, il (List.replicate L 0), il (List.replicate L (-1)), .int 0, .int w0] = some (.tup [.own (dints nw), .own (dints fl), .val (.int tp), .val (.int cw)]))
    (hr0 : roots[0]? = some w0) (hc0 : CR[0]? = some cw) (hokSH : D.ok 4 SH = true) (heqSH : D.eqb SH SH = true) :
    execs (Gt 3) Lt 100 b_law (sto0 vs_law.length [il xs]) = some (.ret (.val (.bool true))) := by
  have hl4 : mem.length ≤ 4096 := by lia
  have hli : (L : Int) ≤ 4096 := by lia
  have hrt4 : roots.length ≤ 4096 := by lia
  have hrr4 : r.length ≤ 4096 := by lia
  have hcr4 : CR.length ≤ 4096 := by lia
  have hn4 : (n : Int) ≤ 4096 := by lia
  have hl1 : mem.length + 1 ≤ 4096 := by lia
  have hut : D.ok 4 (.str (Str.ofString "untiled")) = true := by decide +kernel
  have hute : D.eqb (.str (Str.ofString "untiled")) (.str (Str.ofString "untiled")) = true := decide_eq_true (p := Str.ofString "untiled" = Str.ofString "untiled") rfl
  have hok2 := ok_two CM CR
  have heq2 := eqb_two CM CR
  have p1 := hlp1 (List.replicate n 0) (CR.take n) (by simpa using hn3) (by simp; lia)
  have p2 := hlp2 (List.replicate n 0) (roots.take n) (by simpa using hn3) (by simp; lia)
  have mk2 : ∀ a b : D, mk [a, b] = some (.lst [a, b]) := fun a b => rfl
  have sq2 : ∀ a b : D, seqD (.lst [a, b]) = some [a, b] := fun a b => rfl
  subst hL
  show execs (Gt 3) Lt 100 b_law [some (.val (il xs)), none, none, none, none, none, none, none, none, none, none, none, none, none, none, none, none, none, none, none] = _
  unfold b_law
  refine ex_step [some (.val (il xs)), some (.val (il mem)), some (.val (DC)), some (.val (il roots)), none, none, none, none, none, none, none, none, none, none, none, none, none, none, none, none] (by simp [run_, rt_ret, rt_next, es_nil, es_cons, nx_next, nx_brk, nx_ret, ex_assign, setV_some, ex_assignO, setR_some, nxt_some, ex_take, tk_tup, tk2_own, ex_frz, fz_some, fv_some, ex_unpack, un_tup, puts_nil, puts_cons, ex_setidx, si_int, si2_some, ex_append, ap_some, ex_ite, br_some, ex_for1, f1_some, ex_for2, f2_some, ex_while, ex_ret, rv_some, ex_ret2, r2_some, ex_brk, ex_laid, ld_some, ld2_some, ld3_some, evI_range, rg_some, evI_seq, sq_some, seq_il, rng_int, evO_call, cO_some, evO_lst, evO_bin, evO_list, ow_some, own_il, own_lst, ev_non, ev_bool, ev_int, ev_str, ev_var, ev_bin, bo_some, ev_neg, ng_some, negD_int, ev_cmp, cb_some, bl_some, ev_ite, ei_some, ev_call, cl_some, rD_val, rD_own, rD_tup, ev_bi, bf_some, ev_idx, ix_none, ix_some, cp_vi, cpt_none, cpt_val, cpt_own, cpt_tup, cv_val, cv_own, cp_vv, cp_vb, cp_vc, cp_vx, cp_vn, cp_c, cp_x, cp_s, cp_b, cp_f, ev_slc, s3_some, ev_lst, mko_some, ev_tup, tpo_some, ev_dic0, ev_comp, cm_some, evs_nil, evs_cons, cn_some, et_cmp, co_some, et_not, nt_some, et_and, an_some, et_or, or_some, et_ex, tb_some, eb_var, eb_non, eb_bool, eb_int, eb_str, eb_bin, eb_neg, eb_cmp, eb_ite, eb_call, eb_bi, eb_idx, eb_slc, eb_lst, eb_tup, eb_dic0, eb_comp, rd_zero, rd_succ, put_zero, put_succ, asg_put, toV_val, toB_val, toB_own, ownOf_, toO_own, toD_val, toD_own, toD_tup, ctoD_val, ctoD_own, cds_nil, cds_cons, cs2_some, bin_add, bin_sub, bin_mul, bin_fdiv, bin_mod, bi_len, bi_list, idx_il, idx_tup, idx_dic, add_il, rep_il, mk_nil, mk_one, mk_int, mk_dints, lst_dints, lst_nil, slc_il, slc_il0, slc_il1, cmp_eq, cmp_ne, cmp_lt, cmp_le, cmp_gt, cmp_ge, cmp_in, cmp_notin, ok_int, ok_il, eqb_int, eqb_il, lid, sto0, hbuilt]) ?_
  refine ex_step [some (.val (il xs)), some (.val (il mem)), some (.val (DC)), some (.val (il roots)), some (.val (.int mem.length)), none, none, none, none, none, none, none, none, none, none, none, none, none, none, none] (by simp [run_, rt_ret, rt_next, es_nil, es_cons, nx_next, nx_brk, nx_ret, ex_assign, setV_some, ex_assignO, setR_some, nxt_some, ex_take, tk_tup, tk2_own, ex_frz, fz_some, fv_some, ex_unpack, un_tup, puts_nil, puts_cons, ex_setidx, si_int, si2_some, ex_append, ap_some, ex_ite, br_some, ex_for1, f1_some, ex_for2, f2_some, ex_while, ex_ret, rv_some, ex_ret2, r2_some, ex_brk, ex_laid, ld_some, ld2_some, ld3_some, evI_range, rg_some, evI_seq, sq_some, seq_il, rng_int, evO_call, cO_some, evO_lst, evO_bin, evO_list, ow_some, own_il, own_lst, ev_non, ev_bool, ev_int, ev_str, ev_var, ev_bin, bo_some, ev_neg, ng_some, negD_int, ev_cmp, cb_some, bl_some, ev_ite, ei_some, ev_call, cl_some, rD_val, rD_own, rD_tup, ev_bi, bf_some, ev_idx, ix_none, ix_some, cp_vi, cpt_none, cpt_val, cpt_own, cpt_tup, cv_val, cv_own, cp_vv, cp_vb, cp_vc, cp_vx, cp_vn, cp_c, cp_x, cp_s, cp_b, cp_f, ev_slc, s3_some, ev_lst, mko_some, ev_tup, tpo_some, ev_dic0, ev_comp, cm_some, evs_nil, evs_cons, cn_some, et_cmp, co_some, et_not, nt_some, et_and, an_some, et_or, or_some, et_ex, tb_some, eb_var, eb_non, eb_bool, eb_int, eb_str, eb_bin, eb_neg, eb_cmp, eb_ite, eb_call, eb_bi, eb_idx, eb_slc, eb_lst, eb_tup, eb_dic0, eb_comp, rd_zero, rd_succ, put_zero, put_succ, asg_put, toV_val, toB_val, toB_own, ownOf_, toO_own, toD_val, toD_own, toD_tup, ctoD_val, ctoD_own, cds_nil, cds_cons, cs2_some, bin_add, bin_sub, bin_mul, bin_fdiv, bin_mod, bi_len, bi_list, idx_il, idx_tup, idx_dic, add_il, rep_il, mk_nil, mk_one, mk_int, mk_dints, lst_dints, lst_nil, slc_il, slc_il0, slc_il1, cmp_eq, cmp_ne, cmp_lt, cmp_le, cmp_gt, cmp_ge, cmp_in, cmp_notin, ok_int, ok_il, eqb_int, eqb_il, lid, sto0, hl4]) ?_
  refine ex_step [some (.val (il xs)), some (.val (il mem)), some (.val (DC)), some (.val (il roots)), some (.val (.int mem.length)), some (.val (.int n)), none, none, none, none, none, none, none, none, none, none, none, none, none, none] (by simp [run_, rt_ret, rt_next, es_nil, es_cons, nx_next, nx_brk, nx_ret, ex_assign, setV_some, ex_assignO, setR_some, nxt_some, ex_take, tk_tup, tk2_own, ex_frz, fz_some, fv_some, ex_unpack, un_tup, puts_nil, puts_cons, ex_setidx, si_int, si2_some, ex_append, ap_some, ex_ite, br_some, ex_for1, f1_some, ex_for2, f2_some, ex_while, ex_ret, rv_some, ex_ret2, r2_some, ex_brk, ex_laid, ld_some, ld2_some, ld3_some, evI_range, rg_some, evI_seq, sq_some, seq_il, rng_int, evO_call, cO_some, evO_lst, evO_bin, evO_list, ow_some, own_il, own_lst, ev_non, ev_bool, ev_int, ev_str, ev_var, ev_bin, bo_some, ev_neg, ng_some, negD_int, ev_cmp, cb_some, bl_some, ev_ite, ei_some, ev_call, cl_some, rD_val, rD_own, rD_tup, ev_bi, bf_some, ev_idx, ix_none, ix_some, cp_vi, cpt_none, cpt_val, cpt_own, cpt_tup, cv_val, cv_own, cp_vv, cp_vb, cp_vc, cp_vx, cp_vn, cp_c, cp_x, cp_s, cp_b, cp_f, ev_slc, s3_some, ev_lst, mko_some, ev_tup, tpo_some, ev_dic0, ev_comp, cm_some, evs_nil, evs_cons, cn_some, et_cmp, co_some, et_not, nt_some, et_and, an_some, et_or, or_some, et_ex, tb_some, eb_var, eb_non, eb_bool, eb_int, eb_str, eb_bin, eb_neg, eb_cmp, eb_ite, eb_call, eb_bi, eb_idx, eb_slc, eb_lst, eb_tup, eb_dic0, eb_comp, rd_zero, rd_succ, put_zero, put_succ, asg_put, toV_val, toB_val, toB_own, ownOf_, toO_own, toD_val, toD_own, toD_tup, ctoD_val, ctoD_own, cds_nil, cds_cons, cs2_some, bin_add, bin_sub, bin_mul, bin_fdiv, bin_mod, bi_len, bi_list, idx_il, idx_tup, idx_dic, add_il, rep_il, mk_nil, mk_one, mk_int, mk_dints, lst_dints, lst_nil, slc_il, slc_il0, slc_il1, cmp_eq, cmp_ne, cmp_lt, cmp_le, cmp_gt, cmp_ge, cmp_in, cmp_notin, ok_int, ok_il, eqb_int, eqb_il, lid, sto0, hcell, hn]) ?_
  refine ex_step [some (.val (il xs)), some (.val (il mem)), some (.val (DC)), some (.val (il roots)), some (.val (.int mem.length)), some (.val (.int n)), some (.val (il mem)), none, none, none, none, none, none, none, none, none, none, none, none, none] (by simp [run_, rt_ret, rt_next, es_nil, es_cons, nx_next, nx_brk, nx_ret, ex_assign, setV_some, ex_assignO, setR_some, nxt_some, ex_take, tk_tup, tk2_own, ex_frz, fz_some, fv_some, ex_unpack, un_tup, puts_nil, puts_cons, ex_setidx, si_int, si2_some, ex_append, ap_some, ex_ite, br_some, ex_for1, f1_some, ex_for2, f2_some, ex_while, ex_ret, rv_some, ex_ret2, r2_some, ex_brk, ex_laid, ld_some, ld2_some, ld3_some, evI_range, rg_some, evI_seq, sq_some, seq_il, rng_int, evO_call, cO_some, evO_lst, evO_bin, evO_list, ow_some, own_il, own_lst, ev_non, ev_bool, ev_int, ev_str, ev_var, ev_bin, bo_some, ev_neg, ng_some, negD_int, ev_cmp, cb_some, bl_some, ev_ite, ei_some, ev_call, cl_some, rD_val, rD_own, rD_tup, ev_bi, bf_some, ev_idx, ix_none, ix_some, cp_vi, cpt_none, cpt_val, cpt_own, cpt_tup, cv_val, cv_own, cp_vv, cp_vb, cp_vc, cp_vx, cp_vn, cp_c, cp_x, cp_s, cp_b, cp_f, ev_slc, s3_some, ev_lst, mko_some, ev_tup, tpo_some, ev_dic0, ev_comp, cm_some, evs_nil, evs_cons, cn_some, et_cmp, co_some, et_not, nt_some, et_and, an_some, et_or, or_some, et_ex, tb_some, eb_var, eb_non, eb_bool, eb_int, eb_str, eb_bin, eb_neg, eb_cmp, eb_ite, eb_call, eb_bi, eb_idx, eb_slc, eb_lst, eb_tup, eb_dic0, eb_comp, rd_zero, rd_succ, put_zero, put_succ, asg_put, toV_val, toB_val, toB_own, ownOf_, toO_own, toD_val, toD_own, toD_tup, ctoD_val, ctoD_own, cds_nil, cds_cons, cs2_some, bin_add, bin_sub, bin_mul, bin_fdiv, bin_mod, bi_len, bi_list, idx_il, idx_tup, idx_dic, add_il, rep_il, mk_nil, mk_one, mk_int, mk_dints, lst_dints, lst_nil, slc_il, slc_il0, slc_il1, cmp_eq, cmp_ne, cmp_lt, cmp_le, cmp_gt, cmp_ge, cmp_in, cmp_notin, ok_int, ok_il, eqb_int, eqb_il, lid, sto0, hl4]) ?_
  refine ex_step [some (.val (il xs)), some (.val (il mem)), some (.val (DC)), some (.val (il roots)), some (.val (.int mem.length)), some (.val (.int n)), some (.val (il mem)), some (.val (il roots)), none, none, none, none, none, none, none, none, none, none, none, none] (by simp [run_, rt_ret, rt_next, es_nil, es_cons, nx_next, nx_brk, nx_ret, ex_assign, setV_some, ex_assignO, setR_some, nxt_some, ex_take, tk_tup, tk2_own, ex_frz, fz_some, fv_some, ex_unpack, un_tup, puts_nil, puts_cons, ex_setidx, si_int, si2_some, ex_append, ap_some, ex_ite, br_some, ex_for1, f1_some, ex_for2, f2_some, ex_while, ex_ret, rv_some, ex_ret2, r2_some, ex_brk, ex_laid, ld_some, ld2_some, ld3_some, evI_range, rg_some, evI_seq, sq_some, seq_il, rng_int, evO_call, cO_some, evO_lst, evO_bin, evO_list, ow_some, own_il, own_lst, ev_non, ev_bool, ev_int, ev_str, ev_var, ev_bin, bo_some, ev_neg, ng_some, negD_int, ev_cmp, cb_some, bl_some, ev_ite, ei_some, ev_call, cl_some, rD_val, rD_own, rD_tup, ev_bi, bf_some, ev_idx, ix_none, ix_some, cp_vi, cpt_none, cpt_val, cpt_own, cpt_tup, cv_val, cv_own, cp_vv, cp_vb, cp_vc, cp_vx, cp_vn, cp_c, cp_x, cp_s, cp_b, cp_f, ev_slc, s3_some, ev_lst, mko_some, ev_tup, tpo_some, ev_dic0, ev_comp, cm_some, evs_nil, evs_cons, cn_some, et_cmp, co_some, et_not, nt_some, et_and, an_some, et_or, or_some, et_ex, tb_some, eb_var, eb_non, eb_bool, eb_int, eb_str, eb_bin, eb_neg, eb_cmp, eb_ite, eb_call, eb_bi, eb_idx, eb_slc, eb_lst, eb_tup, eb_dic0, eb_comp, rd_zero, rd_succ, put_zero, put_succ, asg_put, toV_val, toB_val, toB_own, ownOf_, toO_own, toD_val, toD_own, toD_tup, ctoD_val, ctoD_own, cds_nil, cds_cons, cs2_some, bin_add, bin_sub, bin_mul, bin_fdiv, bin_mod, bi_len, bi_list, idx_il, idx_tup, idx_dic, add_il, rep_il, mk_nil, mk_one, mk_int, mk_dints, lst_dints, lst_nil, slc_il, slc_il0, slc_il1, cmp_eq, cmp_ne, cmp_lt, cmp_le, cmp_gt, cmp_ge, cmp_in, cmp_notin, ok_int, ok_il, eqb_int, eqb_il, lid, sto0, hrt4]) ?_
  refine ex_step [some (.val (il xs)), some (.val (il mem)), some (.val (DC)), some (.val (il roots)), some (.val (.int mem.length)), some (.val (.int n)), some (.val (il mem)), some (.val (il roots)), some (.val (il r)), none, none, none, none, none, none, none, none, none, none, none] (by simp [run_, rt_ret, rt_next, es_nil, es_cons, nx_next, nx_brk, nx_ret, ex_assign, setV_some, ex_assignO, setR_some, nxt_some, ex_take, tk_tup, tk2_own, ex_frz, fz_some, fv_some, ex_unpack, un_tup, puts_nil, puts_cons, ex_setidx, si_int, si2_some, ex_append, ap_some, ex_ite, br_some, ex_for1, f1_some, ex_for2, f2_some, ex_while, ex_ret, rv_some, ex_ret2, r2_some, ex_brk, ex_laid, ld_some, ld2_some, ld3_some, evI_range, rg_some, evI_seq, sq_some, seq_il, rng_int, evO_call, cO_some, evO_lst, evO_bin, evO_list, ow_some, own_il, own_lst, ev_non, ev_bool, ev_int, ev_str, ev_var, ev_bin, bo_some, ev_neg, ng_some, negD_int, ev_cmp, cb_some, bl_some, ev_ite, ei_some, ev_call, cl_some, rD_val, rD_own, rD_tup, ev_bi, bf_some, ev_idx, ix_none, ix_some, cp_vi, cpt_none, cpt_val, cpt_own, cpt_tup, cv_val, cv_own, cp_vv, cp_vb, cp_vc, cp_vx, cp_vn, cp_c, cp_x, cp_s, cp_b, cp_f, ev_slc, s3_some, ev_lst, mko_some, ev_tup, tpo_some, ev_dic0, ev_comp, cm_some, evs_nil, evs_cons, cn_some, et_cmp, co_some, et_not, nt_some, et_and, an_some, et_or, or_some, et_ex, tb_some, eb_var, eb_non, eb_bool, eb_int, eb_str, eb_bin, eb_neg, eb_cmp, eb_ite, eb_call, eb_bi, eb_idx, eb_slc, eb_lst, eb_tup, eb_dic0, eb_comp, rd_zero, rd_succ, put_zero, put_succ, asg_put, toV_val, toB_val, toB_own, ownOf_, toO_own, toD_val, toD_own, toD_tup, ctoD_val, ctoD_own, cds_nil, cds_cons, cs2_some, bin_add, bin_sub, bin_mul, bin_fdiv, bin_mod, bi_len, bi_list, idx_il, idx_tup, idx_dic, add_il, rep_il, mk_nil, mk_one, mk_int, mk_dints, lst_dints, lst_nil, slc_il, slc_il0, slc_il1, cmp_eq, cmp_ne, cmp_lt, cmp_le, cmp_gt, cmp_ge, cmp_in, cmp_notin, ok_int, ok_il, eqb_int, eqb_il, lid, sto0, hreach]) ?_
  refine ex_step [some (.val (il xs)), some (.val (il mem)), some (.val (DC)), some (.val (il roots)), some (.val (.int mem.length)), some (.val (.int n)), some (.val (il mem)), some (.val (il roots)), some (.val (il r)), some (.val (.int lv)), none, none, none, none, none, none, none, none, none, none] (by simp [run_, rt_ret, rt_next, es_nil, es_cons, nx_next, nx_brk, nx_ret, ex_assign, setV_some, ex_assignO, setR_some, nxt_some, ex_take, tk_tup, tk2_own, ex_frz, fz_some, fv_some, ex_unpack, un_tup, puts_nil, puts_cons, ex_setidx, si_int, si2_some, ex_append, ap_some, ex_ite, br_some, ex_for1, f1_some, ex_for2, f2_some, ex_while, ex_ret, rv_some, ex_ret2, r2_some, ex_brk, ex_laid, ld_some, ld2_some, ld3_some, evI_range, rg_some, evI_seq, sq_some, seq_il, rng_int, evO_call, cO_some, evO_lst, evO_bin, evO_list, ow_some, own_il, own_lst, ev_non, ev_bool, ev_int, ev_str, ev_var, ev_bin, bo_some, ev_neg, ng_some, negD_int, ev_cmp, cb_some, bl_some, ev_ite, ei_some, ev_call, cl_some, rD_val, rD_own, rD_tup, ev_bi, bf_some, ev_idx, ix_none, ix_some, cp_vi, cpt_none, cpt_val, cpt_own, cpt_tup, cv_val, cv_own, cp_vv, cp_vb, cp_vc, cp_vx, cp_vn, cp_c, cp_x, cp_s, cp_b, cp_f, ev_slc, s3_some, ev_lst, mko_some, ev_tup, tpo_some, ev_dic0, ev_comp, cm_some, evs_nil, evs_cons, cn_some, et_cmp, co_some, et_not, nt_some, et_and, an_some, et_or, or_some, et_ex, tb_some, eb_var, eb_non, eb_bool, eb_int, eb_str, eb_bin, eb_neg, eb_cmp, eb_ite, eb_call, eb_bi, eb_idx, eb_slc, eb_lst, eb_tup, eb_dic0, eb_comp, rd_zero, rd_succ, put_zero, put_succ, asg_put, toV_val, toB_val, toB_own, ownOf_, toO_own, toD_val, toD_own, toD_tup, ctoD_val, ctoD_own, cds_nil, cds_cons, cs2_some, bin_add, bin_sub, bin_mul, bin_fdiv, bin_mod, bi_len, bi_list, idx_il, idx_tup, idx_dic, add_il, rep_il, mk_nil, mk_one, mk_int, mk_dints, lst_dints, lst_nil, slc_il, slc_il0, slc_il1, cmp_eq, cmp_ne, cmp_lt, cmp_le, cmp_gt, cmp_ge, cmp_in, cmp_notin, ok_int, ok_il, eqb_int, eqb_il, lid, sto0, hsum, hlv, hrr4, sum_dints]) ?_
  refine ex_step [some (.val (il xs)), some (.val (il mem)), some (.val (DC)), some (.val (il roots)), some (.val (.int mem.length)), some (.val (.int n)), some (.val (il mem)), some (.val (il roots)), some (.val (il r)), some (.val (.int lv)), some (.val (.tup [il CM, il CR])), none, none, none, none, none, none, none, none, none] (by simp [run_, rt_ret, rt_next, es_nil, es_cons, nx_next, nx_brk, nx_ret, ex_assign, setV_some, ex_assignO, setR_some, nxt_some, ex_take, tk_tup, tk2_own, ex_frz, fz_some, fv_some, ex_unpack, un_tup, puts_nil, puts_cons, ex_setidx, si_int, si2_some, ex_append, ap_some, ex_ite, br_some, ex_for1, f1_some, ex_for2, f2_some, ex_while, ex_ret, rv_some, ex_ret2, r2_some, ex_brk, ex_laid, ld_some, ld2_some, ld3_some, evI_range, rg_some, evI_seq, sq_some, seq_il, rng_int, evO_call, cO_some, evO_lst, evO_bin, evO_list, ow_some, own_il, own_lst, ev_non, ev_bool, ev_int, ev_str, ev_var, ev_bin, bo_some, ev_neg, ng_some, negD_int, ev_cmp, cb_some, bl_some, ev_ite, ei_some, ev_call, cl_some, rD_val, rD_own, rD_tup, ev_bi, bf_some, ev_idx, ix_none, ix_some, cp_vi, cpt_none, cpt_val, cpt_own, cpt_tup, cv_val, cv_own, cp_vv, cp_vb, cp_vc, cp_vx, cp_vn, cp_c, cp_x, cp_s, cp_b, cp_f, ev_slc, s3_some, ev_lst, mko_some, ev_tup, tpo_some, ev_dic0, ev_comp, cm_some, evs_nil, evs_cons, cn_some, et_cmp, co_some, et_not, nt_some, et_and, an_some, et_or, or_some, et_ex, tb_some, eb_var, eb_non, eb_bool, eb_int, eb_str, eb_bin, eb_neg, eb_cmp, eb_ite, eb_call, eb_bi, eb_idx, eb_slc, eb_lst, eb_tup, eb_dic0, eb_comp, rd_zero, rd_succ, put_zero, put_succ, asg_put, toV_val, toB_val, toB_own, ownOf_, toO_own, toD_val, toD_own, toD_tup, ctoD_val, ctoD_own, cds_nil, cds_cons, cs2_some, bin_add, bin_sub, bin_mul, bin_fdiv, bin_mod, bi_len, bi_list, idx_il, idx_tup, idx_dic, add_il, rep_il, mk_nil, mk_one, mk_int, mk_dints, lst_dints, lst_nil, slc_il, slc_il0, slc_il1, cmp_eq, cmp_ne, cmp_lt, cmp_le, cmp_gt, cmp_ge, cmp_in, cmp_notin, ok_int, ok_il, eqb_int, eqb_il, lid, sto0, hcd]) ?_
  refine ex_step [some (.val (il xs)), some (.val (il mem)), some (.val (DC)), some (.val (il roots)), some (.val (.int mem.length)), some (.val (.int n)), some (.val (il mem)), some (.val (il roots)), some (.val (il r)), some (.val (.int lv)), some (.val (.tup [il CM, il CR])), some (.val (il SM)), some (.val (GP)), none, none, none, none, none, none, none] (by simp [run_, rt_ret, rt_next, es_nil, es_cons, nx_next, nx_brk, nx_ret, ex_assign, setV_some, ex_assignO, setR_some, nxt_some, ex_take, tk_tup, tk2_own, ex_frz, fz_some, fv_some, ex_unpack, un_tup, puts_nil, puts_cons, ex_setidx, si_int, si2_some, ex_append, ap_some, ex_ite, br_some, ex_for1, f1_some, ex_for2, f2_some, ex_while, ex_ret, rv_some, ex_ret2, r2_some, ex_brk, ex_laid, ld_some, ld2_some, ld3_some, evI_range, rg_some, evI_seq, sq_some, seq_il, rng_int, evO_call, cO_some, evO_lst, evO_bin, evO_list, ow_some, own_il, own_lst, ev_non, ev_bool, ev_int, ev_str, ev_var, ev_bin, bo_some, ev_neg, ng_some, negD_int, ev_cmp, cb_some, bl_some, ev_ite, ei_some, ev_call, cl_some, rD_val, rD_own, rD_tup, ev_bi, bf_some, ev_idx, ix_none, ix_some, cp_vi, cpt_none, cpt_val, cpt_own, cpt_tup, cv_val, cv_own, cp_vv, cp_vb, cp_vc, cp_vx, cp_vn, cp_c, cp_x, cp_s, cp_b, cp_f, ev_slc, s3_some, ev_lst, mko_some, ev_tup, tpo_some, ev_dic0, ev_comp, cm_some, evs_nil, evs_cons, cn_some, et_cmp, co_some, et_not, nt_some, et_and, an_some, et_or, or_some, et_ex, tb_some, eb_var, eb_non, eb_bool, eb_int, eb_str, eb_bin, eb_neg, eb_cmp, eb_ite, eb_call, eb_bi, eb_idx, eb_slc, eb_lst, eb_tup, eb_dic0, eb_comp, rd_zero, rd_succ, put_zero, put_succ, asg_put, toV_val, toB_val, toB_own, ownOf_, toO_own, toD_val, toD_own, toD_tup, ctoD_val, ctoD_own, cds_nil, cds_cons, cs2_some, bin_add, bin_sub, bin_mul, bin_fdiv, bin_mod, bi_len, bi_list, idx_il, idx_tup, idx_dic, add_il, rep_il, mk_nil, mk_one, mk_int, mk_dints, lst_dints, lst_nil, slc_il, slc_il0, slc_il1, cmp_eq, cmp_ne, cmp_lt, cmp_le, cmp_gt, cmp_ge, cmp_in, cmp_notin, ok_int, ok_il, eqb_int, eqb_il, lid, sto0, hsd]) ?_
  refine ex_step [some (.val (il xs)), some (.val (il mem)), some (.val (DC)), some (.val (il roots)), some (.val (.int mem.length)), some (.val (.int n)), some (.val (il mem)), some (.val (il roots)), some (.val (il r)), some (.val (.int lv)), some (.val (.tup [il CM, il CR])), some (.val (il SM)), some (.val (GP)), some (.val (SH)), none, none, none, none, none, none] (by simp [run_, rt_ret, rt_next, es_nil, es_cons, nx_next, nx_brk, nx_ret, ex_assign, setV_some, ex_assignO, setR_some, nxt_some, ex_take, tk_tup, tk2_own, ex_frz, fz_some, fv_some, ex_unpack, un_tup, puts_nil, puts_cons, ex_setidx, si_int, si2_some, ex_append, ap_some, ex_ite, br_some, ex_for1, f1_some, ex_for2, f2_some, ex_while, ex_ret, rv_some, ex_ret2, r2_some, ex_brk, ex_laid, ld_some, ld2_some, ld3_some, evI_range, rg_some, evI_seq, sq_some, seq_il, rng_int, evO_call, cO_some, evO_lst, evO_bin, evO_list, ow_some, own_il, own_lst, ev_non, ev_bool, ev_int, ev_str, ev_var, ev_bin, bo_some, ev_neg, ng_some, negD_int, ev_cmp, cb_some, bl_some, ev_ite, ei_some, ev_call, cl_some, rD_val, rD_own, rD_tup, ev_bi, bf_some, ev_idx, ix_none, ix_some, cp_vi, cpt_none, cpt_val, cpt_own, cpt_tup, cv_val, cv_own, cp_vv, cp_vb, cp_vc, cp_vx, cp_vn, cp_c, cp_x, cp_s, cp_b, cp_f, ev_slc, s3_some, ev_lst, mko_some, ev_tup, tpo_some, ev_dic0, ev_comp, cm_some, evs_nil, evs_cons, cn_some, et_cmp, co_some, et_not, nt_some, et_and, an_some, et_or, or_some, et_ex, tb_some, eb_var, eb_non, eb_bool, eb_int, eb_str, eb_bin, eb_neg, eb_cmp, eb_ite, eb_call, eb_bi, eb_idx, eb_slc, eb_lst, eb_tup, eb_dic0, eb_comp, rd_zero, rd_succ, put_zero, put_succ, asg_put, toV_val, toB_val, toB_own, ownOf_, toO_own, toD_val, toD_own, toD_tup, ctoD_val, ctoD_own, cds_nil, cds_cons, cs2_some, bin_add, bin_sub, bin_mul, bin_fdiv, bin_mod, bi_len, bi_list, idx_il, idx_tup, idx_dic, add_il, rep_il, mk_nil, mk_one, mk_int, mk_dints, lst_dints, lst_nil, slc_il, slc_il0, slc_il1, cmp_eq, cmp_ne, cmp_lt, cmp_le, cmp_gt, cmp_ge, cmp_in, cmp_notin, ok_int, ok_il, eqb_int, eqb_il, lid, sto0, hshd]) ?_
  refine ex_step [some (.val (il xs)), some (.val (il mem)), some (.val (DC)), some (.val (il roots)), some (.val (.int mem.length)), some (.val (.int n)), some (.val (il mem)), some (.val (il roots)), some (.val (il r)), some (.val (.int lv)), some (.val (.tup [il CM, il CR])), some (.val (il SM)), some (.val (GP)), some (.val (SH)), some (.val (.tup [il CM, il CR])), none, none, none, none, none] (by simp [run_, rt_ret, rt_next, es_nil, es_cons, nx_next, nx_brk, nx_ret, ex_assign, setV_some, ex_assignO, setR_some, nxt_some, ex_take, tk_tup, tk2_own, ex_frz, fz_some, fv_some, ex_unpack, un_tup, puts_nil, puts_cons, ex_setidx, si_int, si2_some, ex_append, ap_some, ex_ite, br_some, ex_for1, f1_some, ex_for2, f2_some, ex_while, ex_ret, rv_some, ex_ret2, r2_some, ex_brk, ex_laid, ld_some, ld2_some, ld3_some, evI_range, rg_some, evI_seq, sq_some, seq_il, rng_int, evO_call, cO_some, evO_lst, evO_bin, evO_list, ow_some, own_il, own_lst, ev_non, ev_bool, ev_int, ev_str, ev_var, ev_bin, bo_some, ev_neg, ng_some, negD_int, ev_cmp, cb_some, bl_some, ev_ite, ei_some, ev_call, cl_some, rD_val, rD_own, rD_tup, ev_bi, bf_some, ev_idx, ix_none, ix_some, cp_vi, cpt_none, cpt_val, cpt_own, cpt_tup, cv_val, cv_own, cp_vv, cp_vb, cp_vc, cp_vx, cp_vn, cp_c, cp_x, cp_s, cp_b, cp_f, ev_slc, s3_some, ev_lst, mko_some, ev_tup, tpo_some, ev_dic0, ev_comp, cm_some, evs_nil, evs_cons, cn_some, et_cmp, co_some, et_not, nt_some, et_and, an_some, et_or, or_some, et_ex, tb_some, eb_var, eb_non, eb_bool, eb_int, eb_str, eb_bin, eb_neg, eb_cmp, eb_ite, eb_call, eb_bi, eb_idx, eb_slc, eb_lst, eb_tup, eb_dic0, eb_comp, rd_zero, rd_succ, put_zero, put_succ, asg_put, toV_val, toB_val, toB_own, ownOf_, toO_own, toD_val, toD_own, toD_tup, ctoD_val, ctoD_own, cds_nil, cds_cons, cs2_some, bin_add, bin_sub, bin_mul, bin_fdiv, bin_mod, bi_len, bi_list, idx_il, idx_tup, idx_dic, add_il, rep_il, mk_nil, mk_one, mk_int, mk_dints, lst_dints, lst_nil, slc_il, slc_il0, slc_il1, cmp_eq, cmp_ne, cmp_lt, cmp_le, cmp_gt, cmp_ge, cmp_in, cmp_notin, ok_int, ok_il, eqb_int, eqb_il, lid, sto0, hcopy]) ?_
  refine ex_step [some (.val (il xs)), some (.val (il mem)), some (.val (DC)), some (.val (il roots)), some (.val (.int mem.length)), some (.val (.int n)), some (.val (il mem)), some (.val (il roots)), some (.val (il r)), some (.val (.int lv)), some (.val (.tup [il CM, il CR])), some (.val (il SM)), some (.val (GP)), some (.val (SH)), some (.val (.tup [il CM, il CR])), none, none, none, none, none] (by simp [run_, rt_ret, rt_next, es_nil, es_cons, nx_next, nx_brk, nx_ret, ex_assign, setV_some, ex_assignO, setR_some, nxt_some, ex_take, tk_tup, tk2_own, ex_frz, fz_some, fv_some, ex_unpack, un_tup, puts_nil, puts_cons, ex_setidx, si_int, si2_some, ex_append, ap_some, ex_ite, br_some, ex_for1, f1_some, ex_for2, f2_some, ex_while, ex_ret, rv_some, ex_ret2, r2_some, ex_brk, ex_laid, ld_some, ld2_some, ld3_some, evI_range, rg_some, evI_seq, sq_some, seq_il, rng_int, evO_call, cO_some, evO_lst, evO_bin, evO_list, ow_some, own_il, own_lst, ev_non, ev_bool, ev_int, ev_str, ev_var, ev_bin, bo_some, ev_neg, ng_some, negD_int, ev_cmp, cb_some, bl_some, ev_ite, ei_some, ev_call, cl_some, rD_val, rD_own, rD_tup, ev_bi, bf_some, ev_idx, ix_none, ix_some, cp_vi, cpt_none, cpt_val, cpt_own, cpt_tup, cv_val, cv_own, cp_vv, cp_vb, cp_vc, cp_vx, cp_vn, cp_c, cp_x, cp_s, cp_b, cp_f, ev_slc, s3_some, ev_lst, mko_some, ev_tup, tpo_some, ev_dic0, ev_comp, cm_some, evs_nil, evs_cons, cn_some, et_cmp, co_some, et_not, nt_some, et_and, an_some, et_or, or_some, et_ex, tb_some, eb_var, eb_non, eb_bool, eb_int, eb_str, eb_bin, eb_neg, eb_cmp, eb_ite, eb_call, eb_bi, eb_idx, eb_slc, eb_lst, eb_tup, eb_dic0, eb_comp, rd_zero, rd_succ, put_zero, put_succ, asg_put, toV_val, toB_val, toB_own, ownOf_, toO_own, toD_val, toD_own, toD_tup, ctoD_val, ctoD_own, cds_nil, cds_cons, cs2_some, bin_add, bin_sub, bin_mul, bin_fdiv, bin_mod, bi_len, bi_list, idx_il, idx_tup, idx_dic, add_il, rep_il, mk_nil, mk_one, mk_int, mk_dints, lst_dints, lst_nil, slc_il, slc_il0, slc_il1, cmp_eq, cmp_ne, cmp_lt, cmp_le, cmp_gt, cmp_ge, cmp_in, cmp_notin, ok_int, ok_il, eqb_int, eqb_il, lid, sto0, hok2, heq2]) ?_
  refine ex_step [some (.val (il xs)), some (.val (il mem)), some (.val (DC)), some (.val (il roots)), some (.val (.int mem.length)), some (.val (.int n)), some (.val (il mem)), some (.val (il roots)), some (.val (il r)), some (.val (.int lv)), some (.val (.tup [il CM, il CR])), some (.val (il SM)), some (.val (GP)), some (.val (SH)), some (.val (.tup [il CM, il CR])), some (.val (il SM)), none, none, none, none] (by simp [run_, rt_ret, rt_next, es_nil, es_cons, nx_next, nx_brk, nx_ret, ex_assign, setV_some, ex_assignO, setR_some, nxt_some, ex_take, tk_tup, tk2_own, ex_frz, fz_some, fv_some, ex_unpack, un_tup, puts_nil, puts_cons, ex_setidx, si_int, si2_some, ex_append, ap_some, ex_ite, br_some, ex_for1, f1_some, ex_for2, f2_some, ex_while, ex_ret, rv_some, ex_ret2, r2_some, ex_brk, ex_laid, ld_some, ld2_some, ld3_some, evI_range, rg_some, evI_seq, sq_some, seq_il, rng_int, evO_call, cO_some, evO_lst, evO_bin, evO_list, ow_some, own_il, own_lst, ev_non, ev_bool, ev_int, ev_str, ev_var, ev_bin, bo_some, ev_neg, ng_some, negD_int, ev_cmp, cb_some, bl_some, ev_ite, ei_some, ev_call, cl_some, rD_val, rD_own, rD_tup, ev_bi, bf_some, ev_idx, ix_none, ix_some, cp_vi, cpt_none, cpt_val, cpt_own, cpt_tup, cv_val, cv_own, cp_vv, cp_vb, cp_vc, cp_vx, cp_vn, cp_c, cp_x, cp_s, cp_b, cp_f, ev_slc, s3_some, ev_lst, mko_some, ev_tup, tpo_some, ev_dic0, ev_comp, cm_some, evs_nil, evs_cons, cn_some, et_cmp, co_some, et_not, nt_some, et_and, an_some, et_or, or_some, et_ex, tb_some, eb_var, eb_non, eb_bool, eb_int, eb_str, eb_bin, eb_neg, eb_cmp, eb_ite, eb_call, eb_bi, eb_idx, eb_slc, eb_lst, eb_tup, eb_dic0, eb_comp, rd_zero, rd_succ, put_zero, put_succ, asg_put, toV_val, toB_val, toB_own, ownOf_, toO_own, toD_val, toD_own, toD_tup, ctoD_val, ctoD_own, cds_nil, cds_cons, cs2_some, bin_add, bin_sub, bin_mul, bin_fdiv, bin_mod, bi_len, bi_list, idx_il, idx_tup, idx_dic, add_il, rep_il, mk_nil, mk_one, mk_int, mk_dints, lst_dints, lst_nil, slc_il, slc_il0, slc_il1, cmp_eq, cmp_ne, cmp_lt, cmp_le, cmp_gt, cmp_ge, cmp_in, cmp_notin, ok_int, ok_il, eqb_int, eqb_il, lid, sto0, hsweep]) ?_
  refine ex_step [some (.val (il xs)), some (.val (il mem)), some (.val (DC)), some (.val (il roots)), some (.val (.int mem.length)), some (.val (.int n)), some (.val (il mem)), some (.val (il roots)), some (.val (il r)), some (.val (.int lv)), some (.val (.tup [il CM, il CR])), some (.val (il SM)), some (.val (GP)), some (.val (SH)), some (.val (.tup [il CM, il CR])), some (.val (il SM)), none, none, none, none] (by simp [run_, rt_ret, rt_next, es_nil, es_cons, nx_next, nx_brk, nx_ret, ex_assign, setV_some, ex_assignO, setR_some, nxt_some, ex_take, tk_tup, tk2_own, ex_frz, fz_some, fv_some, ex_unpack, un_tup, puts_nil, puts_cons, ex_setidx, si_int, si2_some, ex_append, ap_some, ex_ite, br_some, ex_for1, f1_some, ex_for2, f2_some, ex_while, ex_ret, rv_some, ex_ret2, r2_some, ex_brk, ex_laid, ld_some, ld2_some, ld3_some, evI_range, rg_some, evI_seq, sq_some, seq_il, rng_int, evO_call, cO_some, evO_lst, evO_bin, evO_list, ow_some, own_il, own_lst, ev_non, ev_bool, ev_int, ev_str, ev_var, ev_bin, bo_some, ev_neg, ng_some, negD_int, ev_cmp, cb_some, bl_some, ev_ite, ei_some, ev_call, cl_some, rD_val, rD_own, rD_tup, ev_bi, bf_some, ev_idx, ix_none, ix_some, cp_vi, cpt_none, cpt_val, cpt_own, cpt_tup, cv_val, cv_own, cp_vv, cp_vb, cp_vc, cp_vx, cp_vn, cp_c, cp_x, cp_s, cp_b, cp_f, ev_slc, s3_some, ev_lst, mko_some, ev_tup, tpo_some, ev_dic0, ev_comp, cm_some, evs_nil, evs_cons, cn_some, et_cmp, co_some, et_not, nt_some, et_and, an_some, et_or, or_some, et_ex, tb_some, eb_var, eb_non, eb_bool, eb_int, eb_str, eb_bin, eb_neg, eb_cmp, eb_ite, eb_call, eb_bi, eb_idx, eb_slc, eb_lst, eb_tup, eb_dic0, eb_comp, rd_zero, rd_succ, put_zero, put_succ, asg_put, toV_val, toB_val, toB_own, ownOf_, toO_own, toD_val, toD_own, toD_tup, ctoD_val, ctoD_own, cds_nil, cds_cons, cs2_some, bin_add, bin_sub, bin_mul, bin_fdiv, bin_mod, bi_len, bi_list, idx_il, idx_tup, idx_dic, add_il, rep_il, mk_nil, mk_one, mk_int, mk_dints, lst_dints, lst_nil, slc_il, slc_il0, slc_il1, cmp_eq, cmp_ne, cmp_lt, cmp_le, cmp_gt, cmp_ge, cmp_in, cmp_notin, ok_int, ok_il, eqb_int, eqb_il, lid, sto0]) ?_
  refine ex_step [some (.val (il xs)), some (.val (il mem)), some (.val (DC)), some (.val (il roots)), some (.val (.int mem.length)), some (.val (.int n)), some (.val (il mem)), some (.val (il roots)), some (.val (il r)), some (.val (.int lv)), some (.val (.tup [il CM, il CR])), some (.val (il SM)), some (.val (GP)), some (.val (SH)), some (.val (.tup [il CM, il CR])), some (.val (il SM)), none, none, none, none] (by simp [run_, rt_ret, rt_next, es_nil, es_cons, nx_next, nx_brk, nx_ret, ex_assign, setV_some, ex_assignO, setR_some, nxt_some, ex_take, tk_tup, tk2_own, ex_frz, fz_some, fv_some, ex_unpack, un_tup, puts_nil, puts_cons, ex_setidx, si_int, si2_some, ex_append, ap_some, ex_ite, br_some, ex_for1, f1_some, ex_for2, f2_some, ex_while, ex_ret, rv_some, ex_ret2, r2_some, ex_brk, ex_laid, ld_some, ld2_some, ld3_some, evI_range, rg_some, evI_seq, sq_some, seq_il, rng_int, evO_call, cO_some, evO_lst, evO_bin, evO_list, ow_some, own_il, own_lst, ev_non, ev_bool, ev_int, ev_str, ev_var, ev_bin, bo_some, ev_neg, ng_some, negD_int, ev_cmp, cb_some, bl_some, ev_ite, ei_some, ev_call, cl_some, rD_val, rD_own, rD_tup, ev_bi, bf_some, ev_idx, ix_none, ix_some, cp_vi, cpt_none, cpt_val, cpt_own, cpt_tup, cv_val, cv_own, cp_vv, cp_vb, cp_vc, cp_vx, cp_vn, cp_c, cp_x, cp_s, cp_b, cp_f, ev_slc, s3_some, ev_lst, mko_some, ev_tup, tpo_some, ev_dic0, ev_comp, cm_some, evs_nil, evs_cons, cn_some, et_cmp, co_some, et_not, nt_some, et_and, an_some, et_or, or_some, et_ex, tb_some, eb_var, eb_non, eb_bool, eb_int, eb_str, eb_bin, eb_neg, eb_cmp, eb_ite, eb_call, eb_bi, eb_idx, eb_slc, eb_lst, eb_tup, eb_dic0, eb_comp, rd_zero, rd_succ, put_zero, put_succ, asg_put, toV_val, toB_val, toB_own, ownOf_, toO_own, toD_val, toD_own, toD_tup, ctoD_val, ctoD_own, cds_nil, cds_cons, cs2_some, bin_add, bin_sub, bin_mul, bin_fdiv, bin_mod, bi_len, bi_list, idx_il, idx_tup, idx_dic, add_il, rep_il, mk_nil, mk_one, mk_int, mk_dints, lst_dints, lst_nil, slc_il, slc_il0, slc_il1, cmp_eq, cmp_ne, cmp_lt, cmp_le, cmp_gt, cmp_ge, cmp_in, cmp_notin, ok_int, ok_il, eqb_int, eqb_il, lid, sto0, hcopy2, hok2, heq2]) ?_
  refine ex_step [some (.val (il xs)), some (.val (il mem)), some (.val (DC)), some (.val (il roots)), some (.val (.int mem.length)), some (.val (.int n)), some (.val (il mem)), some (.val (il roots)), some (.val (il r)), some (.val (.int lv)), some (.val (.tup [il CM, il CR])), some (.val (il SM)), some (.val (GP)), some (.val (SH)), some (.val (.tup [il CM, il CR])), some (.val (il SM)), none, none, none, none] (by simp [run_, rt_ret, rt_next, es_nil, es_cons, nx_next, nx_brk, nx_ret, ex_assign, setV_some, ex_assignO, setR_some, nxt_some, ex_take, tk_tup, tk2_own, ex_frz, fz_some, fv_some, ex_unpack, un_tup, puts_nil, puts_cons, ex_setidx, si_int, si2_some, ex_append, ap_some, ex_ite, br_some, ex_for1, f1_some, ex_for2, f2_some, ex_while, ex_ret, rv_some, ex_ret2, r2_some, ex_brk, ex_laid, ld_some, ld2_some, ld3_some, evI_range, rg_some, evI_seq, sq_some, seq_il, rng_int, evO_call, cO_some, evO_lst, evO_bin, evO_list, ow_some, own_il, own_lst, ev_non, ev_bool, ev_int, ev_str, ev_var, ev_bin, bo_some, ev_neg, ng_some, negD_int, ev_cmp, cb_some, bl_some, ev_ite, ei_some, ev_call, cl_some, rD_val, rD_own, rD_tup, ev_bi, bf_some, ev_idx, ix_none, ix_some, cp_vi, cpt_none, cpt_val, cpt_own, cpt_tup, cv_val, cv_own, cp_vv, cp_vb, cp_vc, cp_vx, cp_vn, cp_c, cp_x, cp_s, cp_b, cp_f, ev_slc, s3_some, ev_lst, mko_some, ev_tup, tpo_some, ev_dic0, ev_comp, cm_some, evs_nil, evs_cons, cn_some, et_cmp, co_some, et_not, nt_some, et_and, an_some, et_or, or_some, et_ex, tb_some, eb_var, eb_non, eb_bool, eb_int, eb_str, eb_bin, eb_neg, eb_cmp, eb_ite, eb_call, eb_bi, eb_idx, eb_slc, eb_lst, eb_tup, eb_dic0, eb_comp, rd_zero, rd_succ, put_zero, put_succ, asg_put, toV_val, toB_val, toB_own, ownOf_, toO_own, toD_val, toD_own, toD_tup, ctoD_val, ctoD_own, cds_nil, cds_cons, cs2_some, bin_add, bin_sub, bin_mul, bin_fdiv, bin_mod, bi_len, bi_list, idx_il, idx_tup, idx_dic, add_il, rep_il, mk_nil, mk_one, mk_int, mk_dints, lst_dints, lst_nil, slc_il, slc_il0, slc_il1, cmp_eq, cmp_ne, cmp_lt, cmp_le, cmp_gt, cmp_ge, cmp_in, cmp_notin, ok_int, ok_il, eqb_int, eqb_il, lid, sto0, hsweep2]) ?_
  refine ex_step [some (.val (il xs)), some (.val (il mem)), some (.val (DC)), some (.val (il roots)), some (.val (.int mem.length)), some (.val (.int n)), some (.val (il mem)), some (.val (il roots)), some (.val (il r)), some (.val (.int lv)), some (.val (.tup [il CM, il CR])), some (.val (il SM)), some (.val (GP)), some (.val (SH)), some (.val (.tup [il CM, il CR])), some (.val (il SM)), none, none, none, none] (by simp [run_, rt_ret, rt_next, es_nil, es_cons, nx_next, nx_brk, nx_ret, ex_assign, setV_some, ex_assignO, setR_some, nxt_some, ex_take, tk_tup, tk2_own, ex_frz, fz_some, fv_some, ex_unpack, un_tup, puts_nil, puts_cons, ex_setidx, si_int, si2_some, ex_append, ap_some, ex_ite, br_some, ex_for1, f1_some, ex_for2, f2_some, ex_while, ex_ret, rv_some, ex_ret2, r2_some, ex_brk, ex_laid, ld_some, ld2_some, ld3_some, evI_range, rg_some, evI_seq, sq_some, seq_il, rng_int, evO_call, cO_some, evO_lst, evO_bin, evO_list, ow_some, own_il, own_lst, ev_non, ev_bool, ev_int, ev_str, ev_var, ev_bin, bo_some, ev_neg, ng_some, negD_int, ev_cmp, cb_some, bl_some, ev_ite, ei_some, ev_call, cl_some, rD_val, rD_own, rD_tup, ev_bi, bf_some, ev_idx, ix_none, ix_some, cp_vi, cpt_none, cpt_val, cpt_own, cpt_tup, cv_val, cv_own, cp_vv, cp_vb, cp_vc, cp_vx, cp_vn, cp_c, cp_x, cp_s, cp_b, cp_f, ev_slc, s3_some, ev_lst, mko_some, ev_tup, tpo_some, ev_dic0, ev_comp, cm_some, evs_nil, evs_cons, cn_some, et_cmp, co_some, et_not, nt_some, et_and, an_some, et_or, or_some, et_ex, tb_some, eb_var, eb_non, eb_bool, eb_int, eb_str, eb_bin, eb_neg, eb_cmp, eb_ite, eb_call, eb_bi, eb_idx, eb_slc, eb_lst, eb_tup, eb_dic0, eb_comp, rd_zero, rd_succ, put_zero, put_succ, asg_put, toV_val, toB_val, toB_own, ownOf_, toO_own, toD_val, toD_own, toD_tup, ctoD_val, ctoD_own, cds_nil, cds_cons, cs2_some, bin_add, bin_sub, bin_mul, bin_fdiv, bin_mod, bi_len, bi_list, idx_il, idx_tup, idx_dic, add_il, rep_il, mk_nil, mk_one, mk_int, mk_dints, lst_dints, lst_nil, slc_il, slc_il0, slc_il1, cmp_eq, cmp_ne, cmp_lt, cmp_le, cmp_gt, cmp_ge, cmp_in, cmp_notin, ok_int, ok_il, eqb_int, eqb_il, lid, sto0, hsh1, hokSH, heqSH]) ?_
  refine ex_step [some (.val (il xs)), some (.val (il mem)), some (.val (DC)), some (.val (il roots)), some (.val (.int mem.length)), some (.val (.int n)), some (.val (il mem)), some (.val (il roots)), some (.val (il r)), some (.val (.int lv)), some (.val (.tup [il CM, il CR])), some (.val (il SM)), some (.val (GP)), some (.val (SH)), some (.val (.tup [il CM, il CR])), some (.val (il SM)), none, none, none, none] (by simp [run_, rt_ret, rt_next, es_nil, es_cons, nx_next, nx_brk, nx_ret, ex_assign, setV_some, ex_assignO, setR_some, nxt_some, ex_take, tk_tup, tk2_own, ex_frz, fz_some, fv_some, ex_unpack, un_tup, puts_nil, puts_cons, ex_setidx, si_int, si2_some, ex_append, ap_some, ex_ite, br_some, ex_for1, f1_some, ex_for2, f2_some, ex_while, ex_ret, rv_some, ex_ret2, r2_some, ex_brk, ex_laid, ld_some, ld2_some, ld3_some, evI_range, rg_some, evI_seq, sq_some, seq_il, rng_int, evO_call, cO_some, evO_lst, evO_bin, evO_list, ow_some, own_il, own_lst, ev_non, ev_bool, ev_int, ev_str, ev_var, ev_bin, bo_some, ev_neg, ng_some, negD_int, ev_cmp, cb_some, bl_some, ev_ite, ei_some, ev_call, cl_some, rD_val, rD_own, rD_tup, ev_bi, bf_some, ev_idx, ix_none, ix_some, cp_vi, cpt_none, cpt_val, cpt_own, cpt_tup, cv_val, cv_own, cp_vv, cp_vb, cp_vc, cp_vx, cp_vn, cp_c, cp_x, cp_s, cp_b, cp_f, ev_slc, s3_some, ev_lst, mko_some, ev_tup, tpo_some, ev_dic0, ev_comp, cm_some, evs_nil, evs_cons, cn_some, et_cmp, co_some, et_not, nt_some, et_and, an_some, et_or, or_some, et_ex, tb_some, eb_var, eb_non, eb_bool, eb_int, eb_str, eb_bin, eb_neg, eb_cmp, eb_ite, eb_call, eb_bi, eb_idx, eb_slc, eb_lst, eb_tup, eb_dic0, eb_comp, rd_zero, rd_succ, put_zero, put_succ, asg_put, toV_val, toB_val, toB_own, ownOf_, toO_own, toD_val, toD_own, toD_tup, ctoD_val, ctoD_own, cds_nil, cds_cons, cs2_some, bin_add, bin_sub, bin_mul, bin_fdiv, bin_mod, bi_len, bi_list, idx_il, idx_tup, idx_dic, add_il, rep_il, mk_nil, mk_one, mk_int, mk_dints, lst_dints, lst_nil, slc_il, slc_il0, slc_il1, cmp_eq, cmp_ne, cmp_lt, cmp_le, cmp_gt, cmp_ge, cmp_in, cmp_notin, ok_int, ok_il, eqb_int, eqb_il, lid, sto0, hsh2, hokSH, heqSH]) ?_
  refine ex_step [some (.val (il xs)), some (.val (il mem)), some (.val (DC)), some (.val (il roots)), some (.val (.int mem.length)), some (.val (.int n)), some (.val (il mem)), some (.val (il roots)), some (.val (il r)), some (.val (.int lv)), some (.val (.tup [il CM, il CR])), some (.val (il SM)), some (.val (GP)), some (.val (SH)), some (.val (.tup [il CM, il CR])), some (.val (il SM)), none, none, none, none] (by simp [run_, rt_ret, rt_next, es_nil, es_cons, nx_next, nx_brk, nx_ret, ex_assign, setV_some, ex_assignO, setR_some, nxt_some, ex_take, tk_tup, tk2_own, ex_frz, fz_some, fv_some, ex_unpack, un_tup, puts_nil, puts_cons, ex_setidx, si_int, si2_some, ex_append, ap_some, ex_ite, br_some, ex_for1, f1_some, ex_for2, f2_some, ex_while, ex_ret, rv_some, ex_ret2, r2_some, ex_brk, ex_laid, ld_some, ld2_some, ld3_some, evI_range, rg_some, evI_seq, sq_some, seq_il, rng_int, evO_call, cO_some, evO_lst, evO_bin, evO_list, ow_some, own_il, own_lst, ev_non, ev_bool, ev_int, ev_str, ev_var, ev_bin, bo_some, ev_neg, ng_some, negD_int, ev_cmp, cb_some, bl_some, ev_ite, ei_some, ev_call, cl_some, rD_val, rD_own, rD_tup, ev_bi, bf_some, ev_idx, ix_none, ix_some, cp_vi, cpt_none, cpt_val, cpt_own, cpt_tup, cv_val, cv_own, cp_vv, cp_vb, cp_vc, cp_vx, cp_vn, cp_c, cp_x, cp_s, cp_b, cp_f, ev_slc, s3_some, ev_lst, mko_some, ev_tup, tpo_some, ev_dic0, ev_comp, cm_some, evs_nil, evs_cons, cn_some, et_cmp, co_some, et_not, nt_some, et_and, an_some, et_or, or_some, et_ex, tb_some, eb_var, eb_non, eb_bool, eb_int, eb_str, eb_bin, eb_neg, eb_cmp, eb_ite, eb_call, eb_bi, eb_idx, eb_slc, eb_lst, eb_tup, eb_dic0, eb_comp, rd_zero, rd_succ, put_zero, put_succ, asg_put, toV_val, toB_val, toB_own, ownOf_, toO_own, toD_val, toD_own, toD_tup, ctoD_val, ctoD_own, cds_nil, cds_cons, cs2_some, bin_add, bin_sub, bin_mul, bin_fdiv, bin_mod, bi_len, bi_list, idx_il, idx_tup, idx_dic, add_il, rep_il, mk_nil, mk_one, mk_int, mk_dints, lst_dints, lst_nil, slc_il, slc_il0, slc_il1, cmp_eq, cmp_ne, cmp_lt, cmp_le, cmp_gt, cmp_ge, cmp_in, cmp_notin, ok_int, ok_il, eqb_int, eqb_il, lid, sto0, hsh3, hokSH, heqSH]) ?_
  refine ex_step [some (.val (il xs)), some (.val (il mem)), some (.val (DC)), some (.val (il roots)), some (.val (.int mem.length)), some (.val (.int n)), some (.val (il mem)), some (.val (il roots)), some (.val (il r)), some (.val (.int lv)), some (.val (.tup [il CM, il CR])), some (.val (il SM)), some (.val (GP)), some (.val (SH)), some (.val (.tup [il CM, il CR])), some (.val (il SM)), none, none, none, none] (by simp [run_, rt_ret, rt_next, es_nil, es_cons, nx_next, nx_brk, nx_ret, ex_assign, setV_some, ex_assignO, setR_some, nxt_some, ex_take, tk_tup, tk2_own, ex_frz, fz_some, fv_some, ex_unpack, un_tup, puts_nil, puts_cons, ex_setidx, si_int, si2_some, ex_append, ap_some, ex_ite, br_some, ex_for1, f1_some, ex_for2, f2_some, ex_while, ex_ret, rv_some, ex_ret2, r2_some, ex_brk, ex_laid, ld_some, ld2_some, ld3_some, evI_range, rg_some, evI_seq, sq_some, seq_il, rng_int, evO_call, cO_some, evO_lst, evO_bin, evO_list, ow_some, own_il, own_lst, ev_non, ev_bool, ev_int, ev_str, ev_var, ev_bin, bo_some, ev_neg, ng_some, negD_int, ev_cmp, cb_some, bl_some, ev_ite, ei_some, ev_call, cl_some, rD_val, rD_own, rD_tup, ev_bi, bf_some, ev_idx, ix_none, ix_some, cp_vi, cpt_none, cpt_val, cpt_own, cpt_tup, cv_val, cv_own, cp_vv, cp_vb, cp_vc, cp_vx, cp_vn, cp_c, cp_x, cp_s, cp_b, cp_f, ev_slc, s3_some, ev_lst, mko_some, ev_tup, tpo_some, ev_dic0, ev_comp, cm_some, evs_nil, evs_cons, cn_some, et_cmp, co_some, et_not, nt_some, et_and, an_some, et_or, or_some, et_ex, tb_some, eb_var, eb_non, eb_bool, eb_int, eb_str, eb_bin, eb_neg, eb_cmp, eb_ite, eb_call, eb_bi, eb_idx, eb_slc, eb_lst, eb_tup, eb_dic0, eb_comp, rd_zero, rd_succ, put_zero, put_succ, asg_put, toV_val, toB_val, toB_own, ownOf_, toO_own, toD_val, toD_own, toD_tup, ctoD_val, ctoD_own, cds_nil, cds_cons, cs2_some, bin_add, bin_sub, bin_mul, bin_fdiv, bin_mod, bi_len, bi_list, idx_il, idx_tup, idx_dic, add_il, rep_il, mk_nil, mk_one, mk_int, mk_dints, lst_dints, lst_nil, slc_il, slc_il0, slc_il1, cmp_eq, cmp_ne, cmp_lt, cmp_le, cmp_gt, cmp_ge, cmp_in, cmp_notin, ok_int, ok_il, eqb_int, eqb_il, lid, sto0, hfw1]) ?_
  refine ex_step [some (.val (il xs)), some (.val (il mem)), some (.val (DC)), some (.val (il roots)), some (.val (.int mem.length)), some (.val (.int n)), some (.val (il mem)), some (.val (il roots)), some (.val (il r)), some (.val (.int lv)), some (.val (.tup [il CM, il CR])), some (.val (il SM)), some (.val (GP)), some (.val (SH)), some (.val (.tup [il CM, il CR])), some (.val (il SM)), none, none, none, none] (by simp [run_, rt_ret, rt_next, es_nil, es_cons, nx_next, nx_brk, nx_ret, ex_assign, setV_some, ex_assignO, setR_some, nxt_some, ex_take, tk_tup, tk2_own, ex_frz, fz_some, fv_some, ex_unpack, un_tup, puts_nil, puts_cons, ex_setidx, si_int, si2_some, ex_append, ap_some, ex_ite, br_some, ex_for1, f1_some, ex_for2, f2_some, ex_while, ex_ret, rv_some, ex_ret2, r2_some, ex_brk, ex_laid, ld_some, ld2_some, ld3_some, evI_range, rg_some, evI_seq, sq_some, seq_il, rng_int, evO_call, cO_some, evO_lst, evO_bin, evO_list, ow_some, own_il, own_lst, ev_non, ev_bool, ev_int, ev_str, ev_var, ev_bin, bo_some, ev_neg, ng_some, negD_int, ev_cmp, cb_some, bl_some, ev_ite, ei_some, ev_call, cl_some, rD_val, rD_own, rD_tup, ev_bi, bf_some, ev_idx, ix_none, ix_some, cp_vi, cpt_none, cpt_val, cpt_own, cpt_tup, cv_val, cv_own, cp_vv, cp_vb, cp_vc, cp_vx, cp_vn, cp_c, cp_x, cp_s, cp_b, cp_f, ev_slc, s3_some, ev_lst, mko_some, ev_tup, tpo_some, ev_dic0, ev_comp, cm_some, evs_nil, evs_cons, cn_some, et_cmp, co_some, et_not, nt_some, et_and, an_some, et_or, or_some, et_ex, tb_some, eb_var, eb_non, eb_bool, eb_int, eb_str, eb_bin, eb_neg, eb_cmp, eb_ite, eb_call, eb_bi, eb_idx, eb_slc, eb_lst, eb_tup, eb_dic0, eb_comp, rd_zero, rd_succ, put_zero, put_succ, asg_put, toV_val, toB_val, toB_own, ownOf_, toO_own, toD_val, toD_own, toD_tup, ctoD_val, ctoD_own, cds_nil, cds_cons, cs2_some, bin_add, bin_sub, bin_mul, bin_fdiv, bin_mod, bi_len, bi_list, idx_il, idx_tup, idx_dic, add_il, rep_il, mk_nil, mk_one, mk_int, mk_dints, lst_dints, lst_nil, slc_il, slc_il0, slc_il1, cmp_eq, cmp_ne, cmp_lt, cmp_le, cmp_gt, cmp_ge, cmp_in, cmp_notin, ok_int, ok_il, eqb_int, eqb_il, lid, sto0, hfw2]) ?_
  refine ex_step [some (.val (il xs)), some (.val (il mem)), some (.val (DC)), some (.val (il roots)), some (.val (.int mem.length)), some (.val (.int n)), some (.val (il mem)), some (.val (il roots)), some (.val (il r)), some (.val (.int lv)), some (.val (.tup [il CM, il CR])), some (.val (il SM)), some (.val (GP)), some (.val (SH)), some (.val (.tup [il CM, il CR])), some (.val (il SM)), some (.val (il (CR.take n))), none, none, none] (by simp [run_, rt_ret, rt_next, es_nil, es_cons, nx_next, nx_brk, nx_ret, ex_assign, setV_some, ex_assignO, setR_some, nxt_some, ex_take, tk_tup, tk2_own, ex_frz, fz_some, fv_some, ex_unpack, un_tup, puts_nil, puts_cons, ex_setidx, si_int, si2_some, ex_append, ap_some, ex_ite, br_some, ex_for1, f1_some, ex_for2, f2_some, ex_while, ex_ret, rv_some, ex_ret2, r2_some, ex_brk, ex_laid, ld_some, ld2_some, ld3_some, evI_range, rg_some, evI_seq, sq_some, seq_il, rng_int, evO_call, cO_some, evO_lst, evO_bin, evO_list, ow_some, own_il, own_lst, ev_non, ev_bool, ev_int, ev_str, ev_var, ev_bin, bo_some, ev_neg, ng_some, negD_int, ev_cmp, cb_some, bl_some, ev_ite, ei_some, ev_call, cl_some, rD_val, rD_own, rD_tup, ev_bi, bf_some, ev_idx, ix_none, ix_some, cp_vi, cpt_none, cpt_val, cpt_own, cpt_tup, cv_val, cv_own, cp_vv, cp_vb, cp_vc, cp_vx, cp_vn, cp_c, cp_x, cp_s, cp_b, cp_f, ev_slc, s3_some, ev_lst, mko_some, ev_tup, tpo_some, ev_dic0, ev_comp, cm_some, evs_nil, evs_cons, cn_some, et_cmp, co_some, et_not, nt_some, et_and, an_some, et_or, or_some, et_ex, tb_some, eb_var, eb_non, eb_bool, eb_int, eb_str, eb_bin, eb_neg, eb_cmp, eb_ite, eb_call, eb_bi, eb_idx, eb_slc, eb_lst, eb_tup, eb_dic0, eb_comp, rd_zero, rd_succ, put_zero, put_succ, asg_put, toV_val, toB_val, toB_own, ownOf_, toO_own, toD_val, toD_own, toD_tup, ctoD_val, ctoD_own, cds_nil, cds_cons, cs2_some, bin_add, bin_sub, bin_mul, bin_fdiv, bin_mod, bi_len, bi_list, idx_il, idx_tup, idx_dic, add_il, rep_il, mk_nil, mk_one, mk_int, mk_dints, lst_dints, lst_nil, slc_il, slc_il0, slc_il1, cmp_eq, cmp_ne, cmp_lt, cmp_le, cmp_gt, cmp_ge, cmp_in, cmp_notin, ok_int, ok_il, eqb_int, eqb_il, lid, sto0, hn4, hcr4, mk2, sq2, p1]) ?_
  refine ex_step [some (.val (il xs)), some (.val (il mem)), some (.val (DC)), some (.val (il roots)), some (.val (.int mem.length)), some (.val (.int n)), some (.val (il mem)), some (.val (il roots)), some (.val (il r)), some (.val (.int lv)), some (.val (.tup [il CM, il CR])), some (.val (il SM)), some (.val (GP)), some (.val (SH)), some (.val (.tup [il CM, il CR])), some (.val (il SM)), some (.val (il (roots.take n))), none, none, none] (by simp [run_, rt_ret, rt_next, es_nil, es_cons, nx_next, nx_brk, nx_ret, ex_assign, setV_some, ex_assignO, setR_some, nxt_some, ex_take, tk_tup, tk2_own, ex_frz, fz_some, fv_some, ex_unpack, un_tup, puts_nil, puts_cons, ex_setidx, si_int, si2_some, ex_append, ap_some, ex_ite, br_some, ex_for1, f1_some, ex_for2, f2_some, ex_while, ex_ret, rv_some, ex_ret2, r2_some, ex_brk, ex_laid, ld_some, ld2_some, ld3_some, evI_range, rg_some, evI_seq, sq_some, seq_il, rng_int, evO_call, cO_some, evO_lst, evO_bin, evO_list, ow_some, own_il, own_lst, ev_non, ev_bool, ev_int, ev_str, ev_var, ev_bin, bo_some, ev_neg, ng_some, negD_int, ev_cmp, cb_some, bl_some, ev_ite, ei_some, ev_call, cl_some, rD_val, rD_own, rD_tup, ev_bi, bf_some, ev_idx, ix_none, ix_some, cp_vi, cpt_none, cpt_val, cpt_own, cpt_tup, cv_val, cv_own, cp_vv, cp_vb, cp_vc, cp_vx, cp_vn, cp_c, cp_x, cp_s, cp_b, cp_f, ev_slc, s3_some, ev_lst, mko_some, ev_tup, tpo_some, ev_dic0, ev_comp, cm_some, evs_nil, evs_cons, cn_some, et_cmp, co_some, et_not, nt_some, et_and, an_some, et_or, or_some, et_ex, tb_some, eb_var, eb_non, eb_bool, eb_int, eb_str, eb_bin, eb_neg, eb_cmp, eb_ite, eb_call, eb_bi, eb_idx, eb_slc, eb_lst, eb_tup, eb_dic0, eb_comp, rd_zero, rd_succ, put_zero, put_succ, asg_put, toV_val, toB_val, toB_own, ownOf_, toO_own, toD_val, toD_own, toD_tup, ctoD_val, ctoD_own, cds_nil, cds_cons, cs2_some, bin_add, bin_sub, bin_mul, bin_fdiv, bin_mod, bi_len, bi_list, idx_il, idx_tup, idx_dic, add_il, rep_il, mk_nil, mk_one, mk_int, mk_dints, lst_dints, lst_nil, slc_il, slc_il0, slc_il1, cmp_eq, cmp_ne, cmp_lt, cmp_le, cmp_gt, cmp_ge, cmp_in, cmp_notin, ok_int, ok_il, eqb_int, eqb_il, lid, sto0, hn4, hrt4, mk2, sq2, p2]) ?_
  refine ex_step [some (.val (il xs)), some (.val (il mem)), some (.val (DC)), some (.val (il roots)), some (.val (.int mem.length)), some (.val (.int n)), some (.val (il mem)), some (.val (il roots)), some (.val (il r)), some (.val (.int lv)), some (.val (.tup [il CM, il CR])), some (.val (il SM)), some (.val (GP)), some (.val (SH)), some (.val (.tup [il CM, il CR])), some (.val (il SM)), some (.val (il (roots.take n))), none, none, none] (by simp [run_, rt_ret, rt_next, es_nil, es_cons, nx_next, nx_brk, nx_ret, ex_assign, setV_some, ex_assignO, setR_some, nxt_some, ex_take, tk_tup, tk2_own, ex_frz, fz_some, fv_some, ex_unpack, un_tup, puts_nil, puts_cons, ex_setidx, si_int, si2_some, ex_append, ap_some, ex_ite, br_some, ex_for1, f1_some, ex_for2, f2_some, ex_while, ex_ret, rv_some, ex_ret2, r2_some, ex_brk, ex_laid, ld_some, ld2_some, ld3_some, evI_range, rg_some, evI_seq, sq_some, seq_il, rng_int, evO_call, cO_some, evO_lst, evO_bin, evO_list, ow_some, own_il, own_lst, ev_non, ev_bool, ev_int, ev_str, ev_var, ev_bin, bo_some, ev_neg, ng_some, negD_int, ev_cmp, cb_some, bl_some, ev_ite, ei_some, ev_call, cl_some, rD_val, rD_own, rD_tup, ev_bi, bf_some, ev_idx, ix_none, ix_some, cp_vi, cpt_none, cpt_val, cpt_own, cpt_tup, cv_val, cv_own, cp_vv, cp_vb, cp_vc, cp_vx, cp_vn, cp_c, cp_x, cp_s, cp_b, cp_f, ev_slc, s3_some, ev_lst, mko_some, ev_tup, tpo_some, ev_dic0, ev_comp, cm_some, evs_nil, evs_cons, cn_some, et_cmp, co_some, et_not, nt_some, et_and, an_some, et_or, or_some, et_ex, tb_some, eb_var, eb_non, eb_bool, eb_int, eb_str, eb_bin, eb_neg, eb_cmp, eb_ite, eb_call, eb_bi, eb_idx, eb_slc, eb_lst, eb_tup, eb_dic0, eb_comp, rd_zero, rd_succ, put_zero, put_succ, asg_put, toV_val, toB_val, toB_own, ownOf_, toO_own, toD_val, toD_own, toD_tup, ctoD_val, ctoD_own, cds_nil, cds_cons, cs2_some, bin_add, bin_sub, bin_mul, bin_fdiv, bin_mod, bi_len, bi_list, idx_il, idx_tup, idx_dic, add_il, rep_il, mk_nil, mk_one, mk_int, mk_dints, lst_dints, lst_nil, slc_il, slc_il0, slc_il1, cmp_eq, cmp_ne, cmp_lt, cmp_le, cmp_gt, cmp_ge, cmp_in, cmp_notin, ok_int, ok_il, eqb_int, eqb_il, lid, sto0, hl1, hn4, hbad, hut, hute]) ?_
  refine ex_step [some (.val (il xs)), some (.val (il mem)), some (.val (DC)), some (.val (il roots)), some (.val (.int mem.length)), some (.val (.int n)), some (.val (il mem)), some (.val (il roots)), some (.val (il r)), some (.val (.int lv)), some (.val (.tup [il CM, il CR])), some (.val (il SM)), some (.val (GP)), some (.val (SH)), some (.val (.tup [il CM, il CR])), some (.val (il SM)), some (.val (il (roots.take n))), some (.val (il (List.replicate mem.length 0))), none, none] (by simp [run_, rt_ret, rt_next, es_nil, es_cons, nx_next, nx_brk, nx_ret, ex_assign, setV_some, ex_assignO, setR_some, nxt_some, ex_take, tk_tup, tk2_own, ex_frz, fz_some, fv_some, ex_unpack, un_tup, puts_nil, puts_cons, ex_setidx, si_int, si2_some, ex_append, ap_some, ex_ite, br_some, ex_for1, f1_some, ex_for2, f2_some, ex_while, ex_ret, rv_some, ex_ret2, r2_some, ex_brk, ex_laid, ld_some, ld2_some, ld3_some, evI_range, rg_some, evI_seq, sq_some, seq_il, rng_int, evO_call, cO_some, evO_lst, evO_bin, evO_list, ow_some, own_il, own_lst, ev_non, ev_bool, ev_int, ev_str, ev_var, ev_bin, bo_some, ev_neg, ng_some, negD_int, ev_cmp, cb_some, bl_some, ev_ite, ei_some, ev_call, cl_some, rD_val, rD_own, rD_tup, ev_bi, bf_some, ev_idx, ix_none, ix_some, cp_vi, cpt_none, cpt_val, cpt_own, cpt_tup, cv_val, cv_own, cp_vv, cp_vb, cp_vc, cp_vx, cp_vn, cp_c, cp_x, cp_s, cp_b, cp_f, ev_slc, s3_some, ev_lst, mko_some, ev_tup, tpo_some, ev_dic0, ev_comp, cm_some, evs_nil, evs_cons, cn_some, et_cmp, co_some, et_not, nt_some, et_and, an_some, et_or, or_some, et_ex, tb_some, eb_var, eb_non, eb_bool, eb_int, eb_str, eb_bin, eb_neg, eb_cmp, eb_ite, eb_call, eb_bi, eb_idx, eb_slc, eb_lst, eb_tup, eb_dic0, eb_comp, rd_zero, rd_succ, put_zero, put_succ, asg_put, toV_val, toB_val, toB_own, ownOf_, toO_own, toD_val, toD_own, toD_tup, ctoD_val, ctoD_own, cds_nil, cds_cons, cs2_some, bin_add, bin_sub, bin_mul, bin_fdiv, bin_mod, bi_len, bi_list, idx_il, idx_tup, idx_dic, add_il, rep_il, mk_nil, mk_one, mk_int, mk_dints, lst_dints, lst_nil, slc_il, slc_il0, slc_il1, cmp_eq, cmp_ne, cmp_lt, cmp_le, cmp_gt, cmp_ge, cmp_in, cmp_notin, ok_int, ok_il, eqb_int, eqb_il, lid, sto0, hli]) ?_
  refine ex_step [some (.val (il xs)), some (.val (il mem)), some (.val (DC)), some (.val (il roots)), some (.val (.int mem.length)), some (.val (.int n)), some (.val (il mem)), some (.val (il roots)), some (.val (il r)), some (.val (.int lv)), some (.val (.tup [il CM, il CR])), some (.val (il SM)), some (.val (GP)), some (.val (SH)), some (.val (.tup [il CM, il CR])), some (.val (il SM)), some (.val (il (roots.take n))), some (.val (il (List.replicate mem.length 0))), some (.val (il (List.replicate mem.length (-1)))), none] (by simp [run_, rt_ret, rt_next, es_nil, es_cons, nx_next, nx_brk, nx_ret, ex_assign, setV_some, ex_assignO, setR_some, nxt_some, ex_take, tk_tup, tk2_own, ex_frz, fz_some, fv_some, ex_unpack, un_tup, puts_nil, puts_cons, ex_setidx, si_int, si2_some, ex_append, ap_some, ex_ite, br_some, ex_for1, f1_some, ex_for2, f2_some, ex_while, ex_ret, rv_some, ex_ret2, r2_some, ex_brk, ex_laid, ld_some, ld2_some, ld3_some, evI_range, rg_some, evI_seq, sq_some, seq_il, rng_int, evO_call, cO_some, evO_lst, evO_bin, evO_list, ow_some, own_il, own_lst, ev_non, ev_bool, ev_int, ev_str, ev_var, ev_bin, bo_some, ev_neg, ng_some, negD_int, ev_cmp, cb_some, bl_some, ev_ite, ei_some, ev_call, cl_some, rD_val, rD_own, rD_tup, ev_bi, bf_some, ev_idx, ix_none, ix_some, cp_vi, cpt_none, cpt_val, cpt_own, cpt_tup, cv_val, cv_own, cp_vv, cp_vb, cp_vc, cp_vx, cp_vn, cp_c, cp_x, cp_s, cp_b, cp_f, ev_slc, s3_some, ev_lst, mko_some, ev_tup, tpo_some, ev_dic0, ev_comp, cm_some, evs_nil, evs_cons, cn_some, et_cmp, co_some, et_not, nt_some, et_and, an_some, et_or, or_some, et_ex, tb_some, eb_var, eb_non, eb_bool, eb_int, eb_str, eb_bin, eb_neg, eb_cmp, eb_ite, eb_call, eb_bi, eb_idx, eb_slc, eb_lst, eb_tup, eb_dic0, eb_comp, rd_zero, rd_succ, put_zero, put_succ, asg_put, toV_val, toB_val, toB_own, ownOf_, toO_own, toD_val, toD_own, toD_tup, ctoD_val, ctoD_own, cds_nil, cds_cons, cs2_some, bin_add, bin_sub, bin_mul, bin_fdiv, bin_mod, bi_len, bi_list, idx_il, idx_tup, idx_dic, add_il, rep_il, mk_nil, mk_one, mk_int, mk_dints, lst_dints, lst_nil, slc_il, slc_il0, slc_il1, cmp_eq, cmp_ne, cmp_lt, cmp_le, cmp_gt, cmp_ge, cmp_in, cmp_notin, ok_int, ok_il, eqb_int, eqb_il, lid, sto0, hli]) ?_
  refine ex_step [some (.val (il xs)), some (.val (il mem)), some (.val (DC)), some (.val (il roots)), some (.val (.int mem.length)), some (.val (.int n)), some (.val (il mem)), some (.val (il roots)), some (.val (il r)), some (.val (.int lv)), some (.val (.tup [il CM, il CR])), some (.val (il SM)), some (.val (GP)), some (.val (SH)), some (.val (.tup [il CM, il CR])), some (.val (il SM)), some (.val (il (roots.take n))), some (.val (il (List.replicate mem.length 0))), some (.val (il (List.replicate mem.length (-1)))), some (.tup [.own (dints nw), .own (dints fl), .val (.int tp), .val (.int cw)])] (by simp [run_, rt_ret, rt_next, es_nil, es_cons, nx_next, nx_brk, nx_ret, ex_assign, setV_some, ex_assignO, setR_some, nxt_some, ex_take, tk_tup, tk2_own, ex_frz, fz_some, fv_some, ex_unpack, un_tup, puts_nil, puts_cons, ex_setidx, si_int, si2_some, ex_append, ap_some, ex_ite, br_some, ex_for1, f1_some, ex_for2, f2_some, ex_while, ex_ret, rv_some, ex_ret2, r2_some, ex_brk, ex_laid, ld_some, ld2_some, ld3_some, evI_range, rg_some, evI_seq, sq_some, seq_il, rng_int, evO_call, cO_some, evO_lst, evO_bin, evO_list, ow_some, own_il, own_lst, ev_non, ev_bool, ev_int, ev_str, ev_var, ev_bin, bo_some, ev_neg, ng_some, negD_int, ev_cmp, cb_some, bl_some, ev_ite, ei_some, ev_call, cl_some, rD_val, rD_own, rD_tup, ev_bi, bf_some, ev_idx, ix_none, ix_some, cp_vi, cpt_none, cpt_val, cpt_own, cpt_tup, cv_val, cv_own, cp_vv, cp_vb, cp_vc, cp_vx, cp_vn, cp_c, cp_x, cp_s, cp_b, cp_f, ev_slc, s3_some, ev_lst, mko_some, ev_tup, tpo_some, ev_dic0, ev_comp, cm_some, evs_nil, evs_cons, cn_some, et_cmp, co_some, et_not, nt_some, et_and, an_some, et_or, or_some, et_ex, tb_some, eb_var, eb_non, eb_bool, eb_int, eb_str, eb_bin, eb_neg, eb_cmp, eb_ite, eb_call, eb_bi, eb_idx, eb_slc, eb_lst, eb_tup, eb_dic0, eb_comp, rd_zero, rd_succ, put_zero, put_succ, asg_put, toV_val, toB_val, toB_own, ownOf_, toO_own, toD_val, toD_own, toD_tup, ctoD_val, ctoD_own, cds_nil, cds_cons, cs2_some, bin_add, bin_sub, bin_mul, bin_fdiv, bin_mod, bi_len, bi_list, idx_il, idx_tup, idx_dic, add_il, rep_il, mk_nil, mk_one, mk_int, mk_dints, lst_dints, lst_nil, slc_il, slc_il0, slc_il1, cmp_eq, cmp_ne, cmp_lt, cmp_le, cmp_gt, cmp_ge, cmp_in, cmp_notin, ok_int, ok_il, eqb_int, eqb_il, lid, sto0, hr0, hfwd]) ?_
  refine ex_step [some (.val (il xs)), some (.val (il mem)), some (.val (DC)), some (.val (il roots)), some (.val (.int mem.length)), some (.val (.int n)), some (.val (il mem)), some (.val (il roots)), some (.val (il r)), some (.val (.int lv)), some (.val (.tup [il CM, il CR])), some (.val (il SM)), some (.val (GP)), some (.val (SH)), some (.val (.tup [il CM, il CR])), some (.val (il SM)), some (.val (il (roots.take n))), some (.val (il (List.replicate mem.length 0))), some (.val (il (List.replicate mem.length (-1)))), some (.tup [.own (dints nw), .own (dints fl), .val (.int tp), .val (.int cw)])] (by simp [run_, rt_ret, rt_next, es_nil, es_cons, nx_next, nx_brk, nx_ret, ex_assign, setV_some, ex_assignO, setR_some, nxt_some, ex_take, tk_tup, tk2_own, ex_frz, fz_some, fv_some, ex_unpack, un_tup, puts_nil, puts_cons, ex_setidx, si_int, si2_some, ex_append, ap_some, ex_ite, br_some, ex_for1, f1_some, ex_for2, f2_some, ex_while, ex_ret, rv_some, ex_ret2, r2_some, ex_brk, ex_laid, ld_some, ld2_some, ld3_some, evI_range, rg_some, evI_seq, sq_some, seq_il, rng_int, evO_call, cO_some, evO_lst, evO_bin, evO_list, ow_some, own_il, own_lst, ev_non, ev_bool, ev_int, ev_str, ev_var, ev_bin, bo_some, ev_neg, ng_some, negD_int, ev_cmp, cb_some, bl_some, ev_ite, ei_some, ev_call, cl_some, rD_val, rD_own, rD_tup, ev_bi, bf_some, ev_idx, ix_none, ix_some, cp_vi, cpt_none, cpt_val, cpt_own, cpt_tup, cv_val, cv_own, cp_vv, cp_vb, cp_vc, cp_vx, cp_vn, cp_c, cp_x, cp_s, cp_b, cp_f, ev_slc, s3_some, ev_lst, mko_some, ev_tup, tpo_some, ev_dic0, ev_comp, cm_some, evs_nil, evs_cons, cn_some, et_cmp, co_some, et_not, nt_some, et_and, an_some, et_or, or_some, et_ex, tb_some, eb_var, eb_non, eb_bool, eb_int, eb_str, eb_bin, eb_neg, eb_cmp, eb_ite, eb_call, eb_bi, eb_idx, eb_slc, eb_lst, eb_tup, eb_dic0, eb_comp, rd_zero, rd_succ, put_zero, put_succ, asg_put, toV_val, toB_val, toB_own, ownOf_, toO_own, toD_val, toD_own, toD_tup, ctoD_val, ctoD_own, cds_nil, cds_cons, cs2_some, bin_add, bin_sub, bin_mul, bin_fdiv, bin_mod, bi_len, bi_list, idx_il, idx_tup, idx_dic, add_il, rep_il, mk_nil, mk_one, mk_int, mk_dints, lst_dints, lst_nil, slc_il, slc_il0, slc_il1, cmp_eq, cmp_ne, cmp_lt, cmp_le, cmp_gt, cmp_ge, cmp_in, cmp_notin, ok_int, ok_il, eqb_int, eqb_il, lid, sto0, hc0]) ?_
  refine ex_step [some (.val (il xs)), some (.val (il mem)), some (.val (DC)), some (.val (il roots)), some (.val (.int mem.length)), some (.val (.int n)), some (.val (il mem)), some (.val (il roots)), some (.val (il r)), some (.val (.int lv)), some (.val (.tup [il CM, il CR])), some (.val (il SM)), some (.val (GP)), some (.val (SH)), some (.val (.tup [il CM, il CR])), some (.val (il SM)), some (.val (il (roots.take n))), some (.val (il (List.replicate mem.length 0))), some (.val (il (List.replicate mem.length (-1)))), some (.tup [.own (dints nw), .own (dints fl), .val (.int tp), .val (.int cw)])] (by simp [run_, rt_ret, rt_next, es_nil, es_cons, nx_next, nx_brk, nx_ret, ex_assign, setV_some, ex_assignO, setR_some, nxt_some, ex_take, tk_tup, tk2_own, ex_frz, fz_some, fv_some, ex_unpack, un_tup, puts_nil, puts_cons, ex_setidx, si_int, si2_some, ex_append, ap_some, ex_ite, br_some, ex_for1, f1_some, ex_for2, f2_some, ex_while, ex_ret, rv_some, ex_ret2, r2_some, ex_brk, ex_laid, ld_some, ld2_some, ld3_some, evI_range, rg_some, evI_seq, sq_some, seq_il, rng_int, evO_call, cO_some, evO_lst, evO_bin, evO_list, ow_some, own_il, own_lst, ev_non, ev_bool, ev_int, ev_str, ev_var, ev_bin, bo_some, ev_neg, ng_some, negD_int, ev_cmp, cb_some, bl_some, ev_ite, ei_some, ev_call, cl_some, rD_val, rD_own, rD_tup, ev_bi, bf_some, ev_idx, ix_none, ix_some, cp_vi, cpt_none, cpt_val, cpt_own, cpt_tup, cv_val, cv_own, cp_vv, cp_vb, cp_vc, cp_vx, cp_vn, cp_c, cp_x, cp_s, cp_b, cp_f, ev_slc, s3_some, ev_lst, mko_some, ev_tup, tpo_some, ev_dic0, ev_comp, cm_some, evs_nil, evs_cons, cn_some, et_cmp, co_some, et_not, nt_some, et_and, an_some, et_or, or_some, et_ex, tb_some, eb_var, eb_non, eb_bool, eb_int, eb_str, eb_bin, eb_neg, eb_cmp, eb_ite, eb_call, eb_bi, eb_idx, eb_slc, eb_lst, eb_tup, eb_dic0, eb_comp, rd_zero, rd_succ, put_zero, put_succ, asg_put, toV_val, toB_val, toB_own, ownOf_, toO_own, toD_val, toD_own, toD_tup, ctoD_val, ctoD_own, cds_nil, cds_cons, cs2_some, bin_add, bin_sub, bin_mul, bin_fdiv, bin_mod, bi_len, bi_list, idx_il, idx_tup, idx_dic, add_il, rep_il, mk_nil, mk_one, mk_int, mk_dints, lst_dints, lst_nil, slc_il, slc_il0, slc_il1, cmp_eq, cmp_ne, cmp_lt, cmp_le, cmp_gt, cmp_ge, cmp_in, cmp_notin, ok_int, ok_il, eqb_int, eqb_il, lid, sto0, hli]) ?_
  refine ex_step [some (.val (il xs)), some (.val (il mem)), some (.val (DC)), some (.val (il roots)), some (.val (.int mem.length)), some (.val (.int n)), some (.val (il mem)), some (.val (il roots)), some (.val (il r)), some (.val (.int lv)), some (.val (.tup [il CM, il CR])), some (.val (il SM)), some (.val (GP)), some (.val (SH)), some (.val (.tup [il CM, il CR])), some (.val (il SM)), some (.val (il (roots.take n))), some (.val (il (List.replicate mem.length 0))), some (.val (il (List.replicate mem.length (-1)))), some (.tup [.own (dints nw), .own (dints fl), .val (.int tp), .val (.int cw)])] (by simp [run_, rt_ret, rt_next, es_nil, es_cons, nx_next, nx_brk, nx_ret, ex_assign, setV_some, ex_assignO, setR_some, nxt_some, ex_take, tk_tup, tk2_own, ex_frz, fz_some, fv_some, ex_unpack, un_tup, puts_nil, puts_cons, ex_setidx, si_int, si2_some, ex_append, ap_some, ex_ite, br_some, ex_for1, f1_some, ex_for2, f2_some, ex_while, ex_ret, rv_some, ex_ret2, r2_some, ex_brk, ex_laid, ld_some, ld2_some, ld3_some, evI_range, rg_some, evI_seq, sq_some, seq_il, rng_int, evO_call, cO_some, evO_lst, evO_bin, evO_list, ow_some, own_il, own_lst, ev_non, ev_bool, ev_int, ev_str, ev_var, ev_bin, bo_some, ev_neg, ng_some, negD_int, ev_cmp, cb_some, bl_some, ev_ite, ei_some, ev_call, cl_some, rD_val, rD_own, rD_tup, ev_bi, bf_some, ev_idx, ix_none, ix_some, cp_vi, cpt_none, cpt_val, cpt_own, cpt_tup, cv_val, cv_own, cp_vv, cp_vb, cp_vc, cp_vx, cp_vn, cp_c, cp_x, cp_s, cp_b, cp_f, ev_slc, s3_some, ev_lst, mko_some, ev_tup, tpo_some, ev_dic0, ev_comp, cm_some, evs_nil, evs_cons, cn_some, et_cmp, co_some, et_not, nt_some, et_and, an_some, et_or, or_some, et_ex, tb_some, eb_var, eb_non, eb_bool, eb_int, eb_str, eb_bin, eb_neg, eb_cmp, eb_ite, eb_call, eb_bi, eb_idx, eb_slc, eb_lst, eb_tup, eb_dic0, eb_comp, rd_zero, rd_succ, put_zero, put_succ, asg_put, toV_val, toB_val, toB_own, ownOf_, toO_own, toD_val, toD_own, toD_tup, ctoD_val, ctoD_own, cds_nil, cds_cons, cs2_some, bin_add, bin_sub, bin_mul, bin_fdiv, bin_mod, bi_len, bi_list, idx_il, idx_tup, idx_dic, add_il, rep_il, mk_nil, mk_one, mk_int, mk_dints, lst_dints, lst_nil, slc_il, slc_il0, slc_il1, cmp_eq, cmp_ne, cmp_lt, cmp_le, cmp_gt, cmp_ge, cmp_in, cmp_notin, ok_int, ok_il, eqb_int, eqb_il, lid, sto0, hok2, heq2]) ?_
  refine ex_step [some (.val (il xs)), some (.val (il mem)), some (.val (DC)), some (.val (il roots)), some (.val (.int mem.length)), some (.val (.int n)), some (.val (il mem)), some (.val (il roots)), some (.val (il r)), some (.val (.int lv)), some (.val (.tup [il CM, il CR])), some (.val (il SM)), some (.val (GP)), some (.val (SH)), some (.val (.tup [il CM, il CR])), some (.val (il SM)), some (.val (il (roots.take n))), some (.val (il (List.replicate mem.length 0))), some (.val (il (List.replicate mem.length (-1)))), some (.tup [.own (dints nw), .own (dints fl), .val (.int tp), .val (.int cw)])] (by simp [run_, rt_ret, rt_next, es_nil, es_cons, nx_next, nx_brk, nx_ret, ex_assign, setV_some, ex_assignO, setR_some, nxt_some, ex_take, tk_tup, tk2_own, ex_frz, fz_some, fv_some, ex_unpack, un_tup, puts_nil, puts_cons, ex_setidx, si_int, si2_some, ex_append, ap_some, ex_ite, br_some, ex_for1, f1_some, ex_for2, f2_some, ex_while, ex_ret, rv_some, ex_ret2, r2_some, ex_brk, ex_laid, ld_some, ld2_some, ld3_some, evI_range, rg_some, evI_seq, sq_some, seq_il, rng_int, evO_call, cO_some, evO_lst, evO_bin, evO_list, ow_some, own_il, own_lst, ev_non, ev_bool, ev_int, ev_str, ev_var, ev_bin, bo_some, ev_neg, ng_some, negD_int, ev_cmp, cb_some, bl_some, ev_ite, ei_some, ev_call, cl_some, rD_val, rD_own, rD_tup, ev_bi, bf_some, ev_idx, ix_none, ix_some, cp_vi, cpt_none, cpt_val, cpt_own, cpt_tup, cv_val, cv_own, cp_vv, cp_vb, cp_vc, cp_vx, cp_vn, cp_c, cp_x, cp_s, cp_b, cp_f, ev_slc, s3_some, ev_lst, mko_some, ev_tup, tpo_some, ev_dic0, ev_comp, cm_some, evs_nil, evs_cons, cn_some, et_cmp, co_some, et_not, nt_some, et_and, an_some, et_or, or_some, et_ex, tb_some, eb_var, eb_non, eb_bool, eb_int, eb_str, eb_bin, eb_neg, eb_cmp, eb_ite, eb_call, eb_bi, eb_idx, eb_slc, eb_lst, eb_tup, eb_dic0, eb_comp, rd_zero, rd_succ, put_zero, put_succ, asg_put, toV_val, toB_val, toB_own, ownOf_, toO_own, toD_val, toD_own, toD_tup, ctoD_val, ctoD_own, cds_nil, cds_cons, cs2_some, bin_add, bin_sub, bin_mul, bin_fdiv, bin_mod, bi_len, bi_list, idx_il, idx_tup, idx_dic, add_il, rep_il, mk_nil, mk_one, mk_int, mk_dints, lst_dints, lst_nil, slc_il, slc_il0, slc_il1, cmp_eq, cmp_ne, cmp_lt, cmp_le, cmp_gt, cmp_ge, cmp_in, cmp_notin, ok_int, ok_il, eqb_int, eqb_il, lid, sto0]) ?_
  simp [run_, rt_ret, rt_next, es_nil, es_cons, nx_next, nx_brk, nx_ret, ex_assign, setV_some, ex_assignO, setR_some, nxt_some, ex_take, tk_tup, tk2_own, ex_frz, fz_some, fv_some, ex_unpack, un_tup, puts_nil, puts_cons, ex_setidx, si_int, si2_some, ex_append, ap_some, ex_ite, br_some, ex_for1, f1_some, ex_for2, f2_some, ex_while, ex_ret, rv_some, ex_ret2, r2_some, ex_brk, ex_laid, ld_some, ld2_some, ld3_some, evI_range, rg_some, evI_seq, sq_some, seq_il, rng_int, evO_call, cO_some, evO_lst, evO_bin, evO_list, ow_some, own_il, own_lst, ev_non, ev_bool, ev_int, ev_str, ev_var, ev_bin, bo_some, ev_neg, ng_some, negD_int, ev_cmp, cb_some, bl_some, ev_ite, ei_some, ev_call, cl_some, rD_val, rD_own, rD_tup, ev_bi, bf_some, ev_idx, ix_none, ix_some, cp_vi, cpt_none, cpt_val, cpt_own, cpt_tup, cv_val, cv_own, cp_vv, cp_vb, cp_vc, cp_vx, cp_vn, cp_c, cp_x, cp_s, cp_b, cp_f, ev_slc, s3_some, ev_lst, mko_some, ev_tup, tpo_some, ev_dic0, ev_comp, cm_some, evs_nil, evs_cons, cn_some, et_cmp, co_some, et_not, nt_some, et_and, an_some, et_or, or_some, et_ex, tb_some, eb_var, eb_non, eb_bool, eb_int, eb_str, eb_bin, eb_neg, eb_cmp, eb_ite, eb_call, eb_bi, eb_idx, eb_slc, eb_lst, eb_tup, eb_dic0, eb_comp, rd_zero, rd_succ, put_zero, put_succ, asg_put, toV_val, toB_val, toB_own, ownOf_, toO_own, toD_val, toD_own, toD_tup, ctoD_val, ctoD_own, cds_nil, cds_cons, cs2_some, bin_add, bin_sub, bin_mul, bin_fdiv, bin_mod, bi_len, bi_list, idx_il, idx_tup, idx_dic, add_il, rep_il, mk_nil, mk_one, mk_int, mk_dints, lst_dints, lst_nil, slc_il, slc_il0, slc_il1, cmp_eq, cmp_ne, cmp_lt, cmp_le, cmp_gt, cmp_ge, cmp_in, cmp_notin, ok_int, ok_il, eqb_int, eqb_il, lid, sto0]

theorem law_run (xs : List Int) (hx : xs.length ≤ 63) : lawM xs = some (.ret (.val (.bool true))) := by
  obtain ⟨bs, roots, hbuilt, hr4, hrv, hbv, hb6, h24⟩ := built_run 1 hx
  obtain ⟨f, k, r, M⟩ := Bt.met ⟨hr4, hrv, hbv, hb6, h24⟩
  have hbuilt : Gt 3 "_law_built" [il xs] = some (.val (.tup [il (flat bs), .dic (oks 0 bs) (ods bs), il roots])) := hbuilt
  have hcell : Gt 3 "_law_cell" [il xs, .int 1] = some (.val (.int (xs.getD (1 : Int).toNat 0))) := cell_run 2 xs 1 hx (by lia)
  generalize hcv : xs.getD (1 : Int).toNat 0 = c at hcell
  obtain ⟨n, hn, hn3⟩ : ∃ n : Nat, c % 4 = (n : Int) ∧ n ≤ 3 := ⟨(c % 4).toNat, by lia, by lia⟩
  have hlook : ∀ a ∈ r, look a (oks 0 bs) (ods bs) = some (il (f a)) := fun a ha => look_at (M.rat a ha)
  have hfl := M.flen h24
  have hlv := M.lv
  have hr6 := M.r6
  have hcl := M.closed
  have hreach : Gt 3 "_law_reach" [.dic (oks 0 bs) (ods bs), il roots] = some (.val (il r)) := law_reach_run 2 M.g M.k99 hlook
  have hcd : Gt 3 "_law_copy_due" [.dic (oks 0 bs) (ods bs), il r, il roots, .int (flat bs).length] = some (.val (.tup [il (flat (bsC f r (flat bs).length)), il (roots.map (mend (pl f r)))])) := by
    rw [M.flatC]; exact copy_due_run 1 (by lia) M.nd hlook hlv (by lia) hcl.2 hcl.1
  have hsd : Gt 3 "_law_sweep_due" [.dic (oks 0 bs) (ods bs), il r, .int (flat bs).length] = some (.val (.tup [il (flat (co r 0 0 bs)), .lst ((frees 0 (co r 0 0 bs)).map gD)])) := sweep_due_run 2 (by lia) (by lia) M.nd (fun a ha => ⟨_, M.rat a ha⟩) M.fat hlook
  have hshd : Gt 3 "_law_shape_due" [.dic (oks 0 bs) (ods bs), il r, il roots] = some (.val (.tup [il (roots.map (mend (ix r))), .lst (r.map fun a => il ((f a).map (mend (ix r))))])) := shape_due_run 1 (by lia) M.nd (fun a ha => ⟨hlook a ha, hfl a ha⟩) (by lia) hcl.2 hcl.1
  have hcopy : Gt 3 "collected_by_copying" [il (flat bs), il roots] = some (.val (.tup [il (flat (bsC f r (flat bs).length)), il (roots.map (mend (pl f r)))])) := by
    rw [M.flatC]; exact copying_run 0 (by lia) (by lia) M.g (by lia) M.objs hlv
  have hsweep : Gt 3 "collected_by_sweeping" [il (flat bs), il roots] = some (.val (il (flat (co r 0 0 bs)))) := sweeping_run 0 (by lia) M.g M.k99 (by lia) fun a ha => ⟨M.objs a ha, hfl a ha⟩
  have hlC := M.lenC
  have hlS := Mt.lenS bs r
  have hr6' : (r.map fun a => (pl f r a : Int)).length ≤ 6 := by simpa using hr6
  have hroots' : (roots.map (mend (pl f r))).length < 1000 := by simp; lia
  have hcopy2 : Gt 3 "collected_by_copying" [il (flat (bsC f r (flat bs).length)), il (roots.map (mend (pl f r)))] = some (.val (.tup [il (flat (bsC f r (flat bs).length)), il (roots.map (mend (pl f r)))])) := by
    have h := copying_run 0 (mem := flat (bsC f r (flat bs).length)) (by lia) hroots' M.goC (by lia) (fun a ha => (M.atC a ha).obj) (by rw [M.liveC]; lia)
    rw [M.cookC, M.rootC, M.liveC, hlC, ← M.flatC] at h
    exact h
  have hsweep2 : Gt 3 "collected_by_sweeping" [il (flat (co r 0 0 bs)), il roots] = some (.val (il (flat (co r 0 0 bs)))) := by
    have h := sweeping_run 0 (bs := co r 0 0 bs) (by lia) M.g M.k99 (by lia) fun a ha => ⟨(M.atS a ha).obj, hfl a ha⟩
    rw [M.twiceS h24] at h
    exact h
  have hsh1 : Gt 3 "shape_of" [il (flat bs), il roots] = some (.val (.tup [il (roots.map (mend (ix r))), .lst (r.map fun a => il ((f a).map (mend (ix r))))])) := shape_run 0 (by lia) (by lia) M.g M.k99 (by lia) M.objs
  have hsh2 : Gt 3 "shape_of" [il (flat (co r 0 0 bs)), il roots] = some (.val (.tup [il (roots.map (mend (ix r))), .lst (r.map fun a => il ((f a).map (mend (ix r))))])) := shape_run 0 (by lia) (by lia) M.g M.k99 (by lia) fun a ha => (M.atS a ha).obj
  have hsh3 : Gt 3 "shape_of" [il (flat (bsC f r (flat bs).length)), il (roots.map (mend (pl f r)))] = some (.val (.tup [il (roots.map (mend (ix r))), .lst (r.map fun a => il ((f a).map (mend (ix r))))])) := by
    have h := shape_run 0 (mem := flat (bsC f r (flat bs).length)) (by lia) hroots' M.goC M.k99 (by lia) fun a ha => (M.atC a ha).obj
    rw [M.shapeC.1, M.shapeC.2] at h
    exact h
  have hfw1 : Gt 3 "free_words" [il (flat (bsC f r (flat bs).length))] = some (.val (.int ((flat bs).length - live f r))) := by
    rw [← M.fsumC]; exact free_words_run 1 _ (by lia)
  have hfw2 : Gt 3 "free_words" [il (flat (co r 0 0 bs))] = some (.val (.int ((flat bs).length - live f r))) := by
    rw [← M.fsumS]; exact free_words_run 1 _ (by lia)
  have hbad : ∀ d : D, Lt [il (flat bs ++ [1]), d] = some (.str (Str.ofString "untiled")) := fun d => lt_bad (by lia)
  obtain ⟨w0, rest, hw0⟩ : ∃ w0 rest, roots = w0 :: rest := by
    cases roots with
    | nil => simp at hr4
    | cons w0 rest => exact ⟨w0, rest, rfl⟩
  obtain ⟨k', g'⟩ := Go.one (f := f) (met := []) (r := r) (k := k) (w := w0) (q := rest) (p := 0) (by have := M.g; rw [hw0] at this; simpa using this) (by simp)
  obtain ⟨t', ht'⟩ := g'.prefix
  have hfwd : ∃ nw fl tp, Gt 3 "forwarded" [il (flat bs), il (List.replicate (flat bs).length 0), il (List.replicate (flat bs).length (-1)), .int 0, .int w0] = some (.tup [.own (dints nw), .own (dints fl), .val (.int tp), .val (.int (mend (pl f r) w0))]) := by
    have h := forwarded_run 1 (f := f) (mem := flat bs) (met := []) (N := []) (w := w0) (by lia) rfl (fun h => M.objs _ (g'.mem _ (add_mem h))) (by rw [ht', live_app] at hlv; lia)
    rw [mend_of ⟨t', ht'⟩ fun h => add_mem h] at h
    have e : fw f (flat bs).length [] = List.replicate (flat bs).length (-1) := by simp [fw, List.map_const']
    rw [e] at h
    exact ⟨_, _, _, by simpa [live] using h⟩
  obtain ⟨nw, fl, tp, hfwd⟩ := hfwd
  have hsum := mapO_ints (f := elt (Gt 3) (.bin .add (.bi .len (.idx (.var 2) (.var 20))) (.int 1)) [some (.val (il xs)), some (.val (il (flat bs))), some (.val (.dic (oks 0 bs) (ods bs))), some (.val (il roots)), some (.val (.int (flat bs).length)), some (.val (.int n)), some (.val (il (flat bs))), some (.val (il roots)), some (.val (il r)), none, none, none, none, none, none, none, none, none, none, none]) (g := fun a => ((f a).length : Int) + 1) r (fun a ha => by
    have h4 : (f a).length ≤ 4096 := by have := hfl a ha; lia
    simp [elt, run_, rt_ret, rt_next, es_nil, es_cons, nx_next, nx_brk, nx_ret, ex_assign, setV_some, ex_assignO, setR_some, nxt_some, ex_take, tk_tup, tk2_own, ex_frz, fz_some, fv_some, ex_unpack, un_tup, puts_nil, puts_cons, ex_setidx, si_int, si2_some, ex_append, ap_some, ex_ite, br_some, ex_for1, f1_some, ex_for2, f2_some, ex_while, ex_ret, rv_some, ex_ret2, r2_some, ex_brk, ex_laid, ld_some, ld2_some, ld3_some, evI_range, rg_some, evI_seq, sq_some, seq_il, rng_int, evO_call, cO_some, evO_lst, evO_bin, evO_list, ow_some, own_il, own_lst, ev_non, ev_bool, ev_int, ev_str, ev_var, ev_bin, bo_some, ev_neg, ng_some, negD_int, ev_cmp, cb_some, bl_some, ev_ite, ei_some, ev_call, cl_some, rD_val, rD_own, rD_tup, ev_bi, bf_some, ev_idx, ix_none, ix_some, cp_vi, cpt_none, cpt_val, cpt_own, cpt_tup, cv_val, cv_own, cp_vv, cp_vb, cp_vc, cp_vx, cp_vn, cp_c, cp_x, cp_s, cp_b, cp_f, ev_slc, s3_some, ev_lst, mko_some, ev_tup, tpo_some, ev_dic0, ev_comp, cm_some, evs_nil, evs_cons, cn_some, et_cmp, co_some, et_not, nt_some, et_and, an_some, et_or, or_some, et_ex, tb_some, eb_var, eb_non, eb_bool, eb_int, eb_str, eb_bin, eb_neg, eb_cmp, eb_ite, eb_call, eb_bi, eb_idx, eb_slc, eb_lst, eb_tup, eb_dic0, eb_comp, rd_zero, rd_succ, put_zero, put_succ, asg_put, toV_val, toB_val, toB_own, ownOf_, toO_own, toD_val, toD_own, toD_tup, ctoD_val, ctoD_own, cds_nil, cds_cons, cs2_some, bin_add, bin_sub, bin_mul, bin_fdiv, bin_mod, bi_len, bi_list, idx_il, idx_tup, idx_dic, add_il, rep_il, mk_nil, mk_one, mk_int, mk_dints, lst_dints, lst_nil, slc_il, slc_il0, slc_il1, cmp_eq, cmp_ne, cmp_lt, cmp_le, cmp_gt, cmp_ge, cmp_in, cmp_notin, ok_int, ok_il, eqb_int, eqb_il, lid, sto0, hlook a ha, h4])
  have hsm := live_sum_int f r
  have hrm0 : (roots.map (mend (pl f r)))[0]? = some (mend (pl f r) w0) := by rw [hw0]; rfl
  have hr0 : roots[0]? = some w0 := by rw [hw0]; rfl
  rw [lawM, lst_dints]
  exact law_exec (n := n) (L := (flat bs).length) rfl (by lia) (by lia) (by lia) (by lia) hn hn3 hbuilt hcell hreach hsum hsm hcd hsd hshd hcopy hsweep hcopy2 hsweep2 hsh1 hsh2 hsh3 hfw1 hfw2 (fun z t hz ht e0 e1 e2 e3 e5 e6 e7 e8 e11 e12 e13 e15 e16 e17 e18 e19 => law_loop1 M h24 hz ht) (fun z t hz ht e0 e1 e2 e3 e4 e5 e6 e7 e8 e9 e10 e13 e14 e16 e17 e18 e19 => law_loop2 M h24 hz ht) hbad hfwd hr0 hrm0
    (ok_shape (roots.map (mend (ix r))) r (fun a => (f a).map (mend (ix r)))) (eqb_shape (roots.map (mend (ix r))) r (fun a => (f a).map (mend (ix r))))
end Mine

open PySem PySem.W PyProof.Rows
theorem PySem.Challenge.cw_wl_cinder_2v_holds : PySem.Challenge.rw_wl_cinder_2v.Holds :=
  Mine.fin Mine.law_run
